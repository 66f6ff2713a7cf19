/-
  The engine: a part of the proof that trees of values are carried along by the program: no condition.
-/
import Derived.Test.YtmhfebelfmgckaaGreatDoorEB
import Derived.ProofKit
import Derived.OpenShut
import Derived.WideShapes
import Derived.Lib.LaidTab
import Derived.SizedLaws
import Derived.Sort.Row
import Derived.Sort.Grow
import Derived.KernelRfl
open Go renaming Value->a41,World->a42,Operand->a43,Program->a44,TypeId->a45,FuncId->a47,IntKind->a48
open Option renaming some->M,none->s5
open Decidable renaming decide->s6
open Go.Tm.D renaming dead->d!
open And renaming intro->ak
open Bool renaming and_eq_true->E!,and_true->pac,true_and->Ο,true->a38,false->a39
open Classical renaming not_not->v!
open Eq renaming trans->I!
open List renaming all_cons->θ,all_eq_true->R',append_nil->X!,cons_append->G?,contains_iff_mem->Ν,drop_drop->Yad,drop_zero->qad,eq_nil_of_length_eq_zero->Δ,ext_getElem?->nac,foldlM->oaf,getElem?_cons_succ->Kab,getElem?_cons_zero->eab,getElem?_eq_getElem->n!,getElem?_eq_some_iff->dab,getElem_mem->y!,length_cons->G!,length_map->Mab,length_nil->M!,map_cons->D?,map_nil->R?,mem_append->Z?,mem_cons->Z',mem_map_of_mem->Dae,nil_append->O!,replicate->k?,replicate_zero->tad,take_length->ν,take_of_length_le->lac
open Nat renaming le_refl->x?,lt_succ_self->mae,not_lt_zero->Qad,sub_zero->vad,zero_add->Y!,zero_le->L!,zero_lt_succ->Vae
open Option renaming bind_eq_some_iff->hac,map_eq_some_iff->A',map_some->Kac
open Option.some renaming inj->J',injEq->T'
open Prod renaming fst->Nae
open Prod.mk renaming injEq->H!
set_option linter.all false
namespace Go.Tm
variable {k i id j off lo hi u Va:Nat}{R f:D->List Ent->Prop}{d dst:Option Tmp}{r t ds' pre post:List D}{Y p:Prop}{g:Option (Tmp×Bool)}{c b a x:a43}{m' es:List Ent}{X:Type}{w w':a42}{cs:Array a41}{G:Gh}{vs:List a41}{rs:List RV}{F:Fun}{z:a41}{s1 s2 s0:St}{ys:List Int}{cuts ids:List Nat}
inductive W where
 |c (c:C)
 |l (l:List RI)
 |an (q:Nat) (bs:List (List Nat)) (l:List RI)
 |yo (pl:List (Option Nat)) (ps fp:List (List Nat)) (q:Nat) (l:List RI)
 |f (k:Nat) (ds:List D)
 |p (k:Nat) (ds:List D)
 |q (k:Nat) (ds:List D)
 |w (p k:Nat) (ds:List D)
section
variable {P:a44} {FT:Nat->Option (Fun×Nat)} {O:Nat->List D->Option D}
end
variable {α:Type}
noncomputable section
def yK(k:a48):Int:=
 match k with
 |.i8=>256|.i16=>65536|.i32=>4294967296|.i64=>18446744073709551616
 |.u8=>256|.u16=>65536|.u32=>4294967296|.u64=>18446744073709551616
theorem H4(k:a48):yK k=2 ^ k.bits:=by cases k<;>rfl
def VL(n h m:Int):Int:=bif s6 (n % m>=h)then n % m-m else n % m
def aa(k:a48) (n:Int):Int:=
 match k with
 |.i8=>VL n 128 256
 |.i16=>VL n 32768 65536
 |.i32=>VL n 2147483648 4294967296
 |.i64=>VL n 9223372036854775808 18446744073709551616
 |.u8=>n % 256
 |.u16=>n % 65536
 |.u32=>n % 4294967296
 |.u64=>n % 18446744073709551616
theorem jD(k:a48) (n:Int):aa k n=k.wrap n:=by
 cases k<;>simp[aa,VL,IntKind.wrap,IntKind.bits,IntKind.signed,cond_eq_ite]
def XJ(op:Nat->Nat->Nat) (k:a48) (x y:Int):a41:=.int k (aa k (op (x % yK k).toNat (y % yK k).toNat:Nat))
theorem o9(k:a48) (x:Int):(BitVec.ofInt k.bits x).toNat=(x % yK k).toNat:=by
 rw[BitVec.toNat_ofInt,H4];norm_cast
def kj(op:BinOp) (j:a48) (a:Int) (k:a48) (b:Int):Option a41:=
 match op with
 |.add=>bif s6 (j=k)then M (.int j (aa j (a+b)))else s5
 |.sub=>bif s6 (j=k)then M (.int j (aa j (a-b)))else s5
 |.mul=>bif s6 (j=k)then M (.int j (aa j (a*b)))else s5
 |.eql=>bif s6 (j=k)then M (.bool (a==b))else s5
 |.neq=>bif s6 (j=k)then M (.bool (a !=b))else s5
 |.lss=>bif s6 (j=k)then M (.bool (s6 (a<b)))else s5
 |.leq=>bif s6 (j=k)then M (.bool (s6 (a<=b)))else s5
 |.gtr=>bif s6 (j=k)then M (.bool (s6 (b<a)))else s5
 |.geq=>bif s6 (j=k)then M (.bool (s6 (b<=a)))else s5
 |.and=>bif s6 (j=k)then M (XJ Nat.land j a b)else s5
 |.or=>bif s6 (j=k)then M (XJ Nat.lor j a b)else s5
 |.xor=>bif s6 (j=k)then M (XJ Nat.xor j a b)else s5
 |.quo=>bif s6 (j=k)&&!s6 (b=0)then M (.int j (aa j (a.tdiv b)))else s5
 |.rem=>bif s6 (j=k)&&!s6 (b=0)then M (.int j (a.tmod b))else s5
 |.shl=>bif s6 (b<0)then s5 else M (.int j (aa j (a*((2 ^ (min b.toNat j.bits):Nat):Int))))
 |.shr=>bif s6 (b<0)then s5 else M (.int j (a.fdiv ((2 ^ (min b.toNat j.bits):Nat):Int)))
 |op=>bj (binOp op 0 (.int j a) (.int k b))
theorem aR1(op:BinOp) (j:a48) (a:Int) (k:a48) (b:Int):kj op j a k b=bj (binOp op 0 (.int j a) (.int k b)):=by
 have c:∀{α:Type} (x:String),bj (stuck x:Sem α)=s5:=λ_=>rfl;have f:∀{α:Type} (x:α),bj (pure x:Sem α)=M x:=λ_=>rfl;have d:∀{α:Type} x,bj (runtimePanic x:Sem α)=s5:=λ_=>rfl;cases op
 case shl=>
  simp only[kj,binOp,Op.shift,cond_eq_ite,w3];split<;>simp[c,f,d,jD]
 case shr=>
  simp only[kj,binOp,Op.shift,cond_eq_ite,w3];split<;>simp[c,f,d]
 all_goals
  by_cases e:j=k
  .subst e;simp[kj,binOp,Op.intArith,Op.intCmp,Op.intBits,Op.intDiv,c,f,d,jD,XJ,o9,H4];(try rfl);(try (split<;>simp[c,f,d,jD, *]))
  .simp[kj,binOp,e,c]
section
variable {FT:Nat->Option (Fun×Nat)} {O:Nat->List D->Option D}
variable {P:a44}
end
end
variable {P:a44} {N:Nat}
def Jv(r:Option (D×List Ent)) (f:D->List Ent->Prop):Prop:=
 match r with
 |some p=>f p.1 p.2
 |none=>False
@[congr] theorem bs5{r a:Option (D×List Ent)} {f:D->List Ent->Prop} (h:r=a):Jv r f=Jv a f:=by rw[h]
theorem P6(d:D) (m:List Ent) (f:D->List Ent->Prop):Jv (M (d,m)) f=f d m:=d?
theorem Xp(r:Option (D×List Ent)) (f:D->List Ent->Prop):Jv r f↔∃d m',r=M (d,m')/\f d m':=by
 cases r with
 |none=>simp[Jv]
 |some p=>
  obtain⟨d,m⟩:=p;simp only[Jv]
  grind
def kg(P:a44) (k:Nat) (ds:List D) (m:List Ent) (f:D->List Ent->Prop):Prop:=CallT P k ds m f
@[congr] theorem aZ1{k a:Nat} {ds ds':List D} {m m':List Ent} {f:D->List Ent->Prop} (h1:k=a) (h2:ds=ds') (h3:m=m'):kg P k ds m f=kg P a ds' m' f:=l5
def qC{ds:List D}{m:List Ent}(h:CallT P k ds m R) (a:∀d m',R d m'->f d m'):kg P k ds m f:=h.mono a
theorem Lc{ds:List D}{m m1:List Ent}{d1:D}(h:CallT P k ds m λd m'=>d=d1/\m'=m1) (hf:f d1 m1):kg P k ds m f:=
 h.mono λd m' ⟨h1,h2⟩=>l5
theorem ua.cons{d e:D}{l:List D}(h1:q' d e) (h2:ua l r):ua (d::l) (e::r):=by
 simp only[ua]
 grind
theorem q'.Ta(d:D):q' d d!:=by cases d<;>simp[q']
variable {P:a44} {N:Nat}
def gP(p Y N:Prop):Prop:=(p->Y)/\(¬p->N)
theorem cl3{N:Prop}:gP True Y N=Y:=by simp[gP]
theorem cl4{N:Prop}:gP False Y N=N:=by simp[gP]
@[congr] theorem cl2{p a Y N:Prop} (h:p=a):gP p Y N=gP a Y N:=by rw[h]
theorem gP.mk{N:Prop}(a:p->Y) (h2:¬p->N):gP p Y N:=⟨a,h2⟩
def sE(s:St) (g:Option (Tmp×Bool)) (b:Bool):St:=
 match g with
 |none=>s
 |some (t,_)=>
  match s.t.getD t .dead with
  |.v (.bool _)=>{ s with t:=s.t.set t (.v (.bool b)) }
  |_=>s
theorem wJ{l:List D}{t:Nat}{d:D}(h:l.getD t d!=d) (hd:d≠d!):l.set t d=l:=by
 apply nac
 grind
theorem V4{s:St}{c b:Bool}(hg:j! s g=M (M (c,b))) (e:c=b):sE s g b=s:=by
 unfold sE
 cases g with
 |none=>rfl
 |some p=>
  obtain⟨t,b'⟩:=p;simp only;split
  all_goals simp_all[j!,wJ]
theorem aj6{s:St}{c b:Bool}(a:j! s g=M (M (c,b))) (e:c≠b):sE s g (!b)=s:=by
 unfold sE
 cases g with
 |none=>rfl
 |some p=>
  obtain⟨t,d⟩:=p;simp only;split
  .rename_i x hx;simp only[j!,hx]at a;injection a with a;injection a with a;injection a with f h2;subst f h2;have:x = !d:=by cases x<;>cases d<;>simp_all
   simp_all[wJ]
  .rfl
def KO(R:St->Prop) (s:St) (dst:Option Tmp) (d:D) (m':List Ent):Prop:=R ({ s with m:=m' }.put dst d)
def Vj(P:a44):List RI->(St->Prop)->St->Prop
 |[],K,s=>K s
 |.op dst g i::l,K,s=>
  match j! s g with
  |none=>False
  |some s5=>Jv (fa s i) (KO (Vj P l K) s dst)
  |some (M (c,b))=>gP (c=b) (Jv (fa (sE s g b) i) (KO (Vj P l K) (sE s g b) dst)) (Vj P l K ((sE s g (!b)).put dst (.v undef)))
 |.call dst g f args::l,K,s=>
  match s.ec f with
  |.fn k first caps=>
   match j! s g with
   |none=>False
   |some s5=>kg P k (first++args.map s.ev++caps) s.m (KO (Vj P l K) s dst)
   |some (M (c,b))=>gP (c=b) (kg P k (first++args.map (sE s g b).ev++caps) s.m (KO (Vj P l K) (sE s g b) dst)) (Vj P l K ((sE s g (!b)).put dst (.v undef)))
  |_=>False
theorem kz:∀{l:List RI}{K:St->Prop}{s:St},Vj P l K s->ln P l K s
 |[],K,s,h=>h
 |.op dst g i::l,K,s,h=>by
  simp only[Vj]at h;simp only[ln];split at h
  .simp_all
  .rename_i a;rw[a];obtain⟨d,m',j,h2⟩:=(Xp _ _).1 h;exact⟨d,m',j,kz h2⟩
  .rename_i c b a;rw[a];refine⟨λe=>?_,λe=>?_⟩
   .have h:=h.1 e;rw[V4 a e]at h;obtain⟨d,m',j,h2⟩:=(Xp _ _).1 h;exact⟨d,m',j,kz h2⟩
   .have h:=h.2 e;rw[aj6 a e]at h;exact kz h
 |.call dst g f args::l,K,s,h=>by
  simp only[Vj]at h;simp only[ln];split at h
  .rename_i k first caps hf
   rw[hf];split at h
   .simp_all
   .rename_i a;rw[a];exact h.mono λ_ _ h2=>kz h2
   .rename_i c b a;rw[a];refine⟨λe=>?_,λe=>?_⟩
    .have h:=h.1 e;rw[V4 a e]at h;exact h.mono λ_ _ h2=>kz h2
    .have h:=h.2 e;rw[aj6 a e]at h;exact kz h
  simp_all
def mD(P:a44):Nat->List RI->(St->Prop)->St->Prop
 |0,l,K,s=>Vj P l K s
 |_+1,[],_,_=>False
 |q+1,.op dst g i::l,K,s=>
  match j! s g with
  |none=>False
  |some s5=>Jv (fa s i) (KO (mD P q l K) s dst)
  |some (M (c,b))=>gP (c=b) (Jv (fa s i) (KO (mD P q l K) s dst)) (mD P q l K (s.put dst (.v undef)))
 |q+1,.call dst g f args::l,K,s=>
  match s.cv f with
  |.fn k first caps=>
   match j! s g with
   |none=>False
   |some s5=>∃d,(∀m,CallT P k (first++args.map s.ev++caps) m λd' m'=>d'=d/\m'=m)/\mD P q l K (s.put dst d)
   |some (M (c,b))=>(c=b->∃d,(∀m,CallT P k (first++args.map s.ev++caps) m λd' m'=>d'=d/\m'=m)/\mD P q l K (s.put dst d))/\(c≠b->mD P q l K (s.put dst (.v undef)))
  |_=>False
theorem TN:∀{q:Nat}{l:List RI}{K:St->Prop}{s:St},mD P q l K s->IU P q l K s
 |0,l,K,s,h=>by simp only[mD]at h;simp only[IU];exact kz h
 |_+1,[],K,s,h=>by simp only[mD]at h
 |q+1,.op dst g i::l,K,s,h=>by
  simp only[mD]at h;simp only[IU];split at h
  .simp_all
  .rename_i j;rw[j];obtain⟨d,m',a,h2⟩:=(Xp _ _).1 h;exact⟨d,m',a,TN h2⟩
  .rename_i c b j;rw[j];refine⟨λe=>?_,λe=>TN (h.2 e)⟩;obtain⟨d,m',a,h2⟩:=(Xp _ _).1 (h.1 e);exact⟨d,m',a,TN h2⟩
 |q+1,.call dst g f args::l,K,s,h=>by
  simp only[mD]at h;simp only[IU];split at h
  .rename_i k first caps hf
   rw[hf];split at h
   .simp_all
   .rename_i j;rw[j];obtain⟨d,a,h2⟩:=h;exact⟨d,a,TN h2⟩
   .rename_i c b j;rw[j];refine⟨λe=>?_,λe=>TN (h.2 e)⟩;obtain⟨d,a,h2⟩:=h.1 e;exact⟨d,a,TN h2⟩
  simp_all
def C.TM:C->Bool
 |.loop _=>a38
 |.any ..=>a38
 |.seq a b=>a.TM || b.TM
 |.cond _ a b=>a.TM || b.TM
 |.block _ a=>a.TM
 |_=>a39
def C.Dp:C->Bool
 |.loop _=>a38
 |_=>a39
def l7{f:a47}{ds:List D}{m:List Ent}(a:ua ds ds') (h:CallT P f ds' m R):CallT P f ds m R:=
 ⟨h.1,λG w vs hv hi=>h.2 G w vs (a.rel hv) hi⟩
def KS(P:a44) (N:Nat) (b:C) (K:Exit->St->Prop) (e:Exit) (s':St):Prop:=match e with|.normal=>Tm.T P N b K s'|e=>K e s'
def H6{b:C}{K:Exit->St->Prop}{s:St}:KS P N b K .normal s=Tm.T P N b K s:=d?
def aT1{b:C}{K:Exit->St->Prop}{s:St}:KS P N b K (.exit i) s=K (.exit i) s:=d?
def bt8{b:C}{K:Exit->St->Prop}{s:St}:KS P N b K .ret s=K .ret s:=d?
def KZ(R:St->Prop) (K:Exit->St->Prop) (e:Exit) (s':St):Prop:=match e with|.normal=>R s'|e=>K e s'
def KB(id:Nat) (K:Exit->St->Prop) (e:Exit) (s':St):Prop:=match e with|.exit a=>if a=id then K .normal s' else K (.exit a) s'|e=>K e s'
def G6{K:Exit->St->Prop}{s:St}:KB id K .normal s=K .normal s:=d?
def aT5{K:Exit->St->Prop}{s:St}:KB id K (.exit i) s=if i=id then K .normal s else K (.exit i) s:=d?
def bu3{K:Exit->St->Prop}{s:St}:KB id K .ret s=K .ret s:=d?
@[congr] theorem cs9{c:C} {K:Exit->St->Prop} {s s':St} (h:s=s'):Tm.T P N c K s=Tm.T P N c K s':=by rw[h]
def Z(P:a44) (N:Nat):C->(Exit->St->Prop)->St->Prop
 |.skip,K,s=>K .normal s
 |.eU l,K,s=>Vj P l (K .normal) s
 |.draw q l,K,s=>mD P q l (K .normal) s
 |.any cuts q bs l,K,s=>T P N (.any cuts q bs l) K s
 |.seq a b,K,s=>
  match a.TM with
  |true=>Z P N a (KS P N b K) s
  |false=>Z P N a (KZ (Z P N b K) K) s
 |.cond c a b,K,s=>
  match s.ev c with
  |.v (.bool t)=>gP (t=a38) (Z P N a K s) (Z P N b K s)
  |_=>False
 |.block id a,K,s=>
  match a.Dp with
  |true=>T P N (.block id a) K s
  |false=>Z P N a (KB id K) s
 |.loop a,K,s=>T P N (.loop a) K s
 |.exit id,K,s=>K (.exit id) s
 |.ret,K,s=>K .ret s
 |.stuck,_,_=>False
theorem Z.T(hm:P.follows .mixedOrders=a38):∀{c:C}{K:Exit->St->Prop}{s:St},Z P N c K s->T P N c K s
 |.skip,K,s,h=>T.skip h
 |.eU l,K,s,h=>T.eU (kz h)
 |.draw q l,K,s,h=>T.draw hm (TN h)
 |.any cuts q bs l,K,s,h=>h
 |.seq a b,K,s,h=>by
  simp only[Z]at h;split at h
  .refine T.seq ((Z.T hm h).mono ?_);intro e s' d;cases e<;>exact d
  .refine T.seq ((Z.T hm h).mono ?_);intro e s' d
   cases e with
   |normal=>exact Z.T hm d
   |_=>exact d
 |.cond c a b,K,s,h=>by
  simp only[Z]at h;split at h
  .rename_i t ht;exact T.cond ht (λe=>Z.T hm (h.1 e)) (λe=>Z.T hm (h.2 (by simp[e])))
  .exact h.elim
 |.block id a,K,s,h=>by
  simp only[Z]at h;split at h
  .exact h
  .exact T.block ((Z.T hm h).mono λe s' d=>by cases e<;>exact d)
 |.loop a,K,s,h=>h
 |.exit id,K,s,h=>T.exit h
 |.ret,K,s,h=>T.ret h
 |.stuck,_,_,h=>by simp only[Z]at h
section
variable {l:List RI} {K:St->Prop} {s:St} {dst:Option Tmp} {i:I} {q:Nat} {f:ς} {args:List a43} {g:Tmp×Bool}
def aw3:Vj P [] K s=K s:=d?
def K1:Vj P (.op dst s5 i::l) K s=Jv (fa s i) (KO (Vj P l K) s dst):=d?
def aw1:Vj P (.op dst (M g) i::l) K s =
 match j! s (M g)with
 |none=>False
 |some s5=>Jv (fa s i) (KO (Vj P l K) s dst)
 |some (M (c,b))=>gP (c=b) (Jv (fa (sE s (M g) b) i) (KO (Vj P l K) (sE s (M g) b) dst)) (Vj P l K ((sE s (M g) (!b)).put dst (.v undef))):=d?
theorem J6{k:a47}{first caps:List D}(hf:s.ec f=.fn k first caps):Vj P (.call dst s5 f args::l) K s=kg P k (first++args.map s.ev++caps) s.m (KO (Vj P l K) s dst):=by
 simp only[Vj,hf,j!]
theorem oN{k:a47}:Vj P (.call dst s5 (.func k) args::l) K s=kg P k (args.map s.ev) s.m (KO (Vj P l K) s dst):=by
 rw[J6 (k:=k) (first:=[]) (caps:=[]) rfl,O!,X!]
theorem OU{k:a47}:Vj P (.call dst (M g) (.func k) args::l) K s =
 match j! s (M g)with
 |none=>False
 |some s5=>kg P k (args.map s.ev) s.m (KO (Vj P l K) s dst)
 |some (M (c,b))=>gP (c=b) (kg P k (args.map (sE s (M g) b).ev) s.m (KO (Vj P l K) (sE s (M g) b) dst)) (Vj P l K ((sE s (M g) (!b)).put dst (.v undef))):=by
 simp only[Vj,St.ec,St.ev,O!,X!]
theorem ax2:mD P 0 l K s=Vj P l K s:=by simp only[mD]
theorem ax3:mD P (q+1) (.op dst s5 i::l) K s=Jv (fa s i) (KO (mD P q l K) s dst):=d?
def aT7:mD P (q+1) (.op dst (M g) i::l) K s =
 match j! s (M g)with
 |none=>False
 |some s5=>Jv (fa s i) (KO (mD P q l K) s dst)
 |some (M (c,b))=>gP (c=b) (Jv (fa s i) (KO (mD P q l K) s dst)) (mD P q l K (s.put dst (.v undef))):=d?
def mR(P:a44) (k:a47) (ds:List D) (R:St->Prop) (s:St) (dst:Option Tmp):Prop:=∃d,(∀m,CallT P k ds m λd' m'=>d'=d/\m'=m)/\R (s.put dst d)
theorem dR{k:a47}:mD P (q+1) (.call dst s5 (.func k) args::l) K s=mR P k (args.map s.ev) (mD P q l K) s dst:=by
 simp only[mD,St.cv,St.ev,O!,X!,mR,j!]
theorem qY{k:a47}:mD P (q+1) (.call dst (M g) (.func k) args::l) K s =
 match j! s (M g)with
 |none=>False
 |some s5=>mR P k (args.map s.ev) (mD P q l K) s dst
 |some (M (c,b))=>gP (c=b) (mR P k (args.map s.ev) (mD P q l K) s dst) (mD P q l K (s.put dst (.v undef))):=by
 simp only[mD,St.cv,St.ev,O!,X!,mR,gP]
variable {K':Exit->St->Prop} {a b:C} {c:a43} {id:Nat} {cuts:List Nat} {bs:List (List Nat)}
def Gr:Z P N .skip K' s=K' .normal s:=d?
def my:Z P N (.eU l) K' s=Vj P l (K' .normal) s:=d?
def Cr:Z P N (.draw q l) K' s=mD P q l (K' .normal) s:=d?
def ky:Z P N (.any cuts q bs l) K' s=Tm.T P N (.any cuts q bs l) K' s:=d?
def KZb(P:a44) (N:Nat) (b:C) (K':Exit->St->Prop):Exit->St->Prop:=KZ (Z P N b K') K'
def Wd:KZb P N b K' .normal s=Z P N b K' s:=d?
def fi:KZb P N b K' (.exit id) s=K' (.exit id) s:=d?
def Ul:KZb P N b K' .ret s=K' .ret s:=d?
def oy:Z P N (.seq a b) K' s=match a.TM with
 |true=>Z P N a (KS P N b K') s
 |false=>Z P N a (KZb P N b K') s:=d?
def Br:Z P N (.cond c a b) K' s=match s.ev c with
 |.v (.bool t)=>gP (t=a38) (Z P N a K' s) (Z P N b K' s)
 |_=>False:=d?
def Vl:Z P N (.block id a) K' s=match a.Dp with
 |true=>Tm.T P N (.block id a) K' s
 |false=>Z P N a (KB id K') s:=d?
def Er:Z P N (.loop a) K' s=Tm.T P N (.loop a) K' s:=d?
def Dr:Z P N (.exit id) K' s=K' (.exit id) s:=d?
def ny:Z P N .ret K' s=K' .ret s:=d?
end
def At(s' S:St):Prop:=ua s'.t S.t/\∃g,s'.m=S.m++g
def At.mk(t t':List D) (m g:List Ent) (h:ua t t'):At ⟨t,m++g⟩ ⟨t',m⟩:=⟨h,g,rfl⟩
theorem At.same(t t':List D) (m:List Ent) (h:ua t t'):At ⟨t,m⟩ ⟨t',m⟩:=⟨h,[],o0⟩
theorem At.cut(n:Nat) {t':List D}{m:List Ent}(a:ua t t') (h2:m.take n=m'):At ⟨t,m⟩ ⟨t',m'⟩:=⟨a,m.drop n,by grind[List.take_append_drop]⟩
def Ω(N:Nat) (s:St):Prop:=N<=s.m.length/\j? s.m.length s.t=a38/\s.m.all (Ent.below s.m.length)=a38
theorem q'.inv{a b:D}(h:q' a b):b=d!\/(∃S,a=.v (.slice s5 0 0)/\b=.sl S [])\/(∃l r,a=.agg l/\b=.agg r/\ua l r)\/(∃l r,a=.tup l/\b=.tup r/\ua l r)\/(∃S l r,a=.sl S l/\b=.sl S r/\ua l r)\/a=b:=by
 cases b with
 |dead=>simp
 |v x=>cases a<;>simp_all[q']
 |agg r=>cases a<;>simp_all[q']
 |tup r=>cases a<;>simp_all[q']
 |sl S r=>
  cases a with
  |sl S' l=>simp only[q']at h;grind
  |_=>simp_all[q']
 |pt x=>cases a<;>simp_all[q']
 |ref _ _ _ _=>cases a<;>simp_all[q']
 |own _ _=>cases a<;>simp_all[q']
 |view _ _ _ _=>cases a<;>simp_all[q']
 |fn _ _ _=>cases a<;>simp_all[q']
 |mp _=>cases a<;>simp_all[q']
 |ifc _ _=>cases a<;>simp_all[q']
mutual
theorem q'.trans:∀{a b c:D},q' a b->q' b c->q' a c
 |a,d!,c,d,h2=>by
  rcases h2.inv with rfl|⟨_,h,_⟩|⟨_,_,h,_⟩|⟨_,_,h,_⟩|⟨_,_,_,h,_⟩|rfl
  .exact q'.Ta _
  .cases h
  .cases h
  .cases h
  .cases h
  .exact q'.Ta _
 |a,.agg r,c,d,h2=>by
  rcases d.inv with h|⟨_,_,h⟩|⟨l,j,rfl,h,g⟩|⟨_,_,_,h,_⟩|⟨_,_,_,_,h,_⟩|rfl
  .cases h
  .cases h
  .injection h with h;subst h;rcases h2.inv with rfl|⟨_,h,_⟩|⟨j,q,h,rfl,e⟩|⟨_,_,h,_⟩|⟨_,_,_,h,_⟩|rfl
   .exact q'.Ta _
   .cases h
   .injection h with h;subst h;simp only[q'];exact ua.trans g e
   .cases h
   .cases h
   .exact d
  .cases h
  .cases h
  .exact h2
 |a,.tup r,c,d,h2=>by
  rcases d.inv with h|⟨_,_,h⟩|⟨_,_,_,h,_⟩|⟨l,j,rfl,h,g⟩|⟨_,_,_,_,h,_⟩|rfl
  .cases h
  .cases h
  .cases h
  .injection h with h;subst h;rcases h2.inv with rfl|⟨_,h,_⟩|⟨_,_,h,_⟩|⟨j,q,h,rfl,e⟩|⟨_,_,_,h,_⟩|rfl
   .exact q'.Ta _
   .cases h
   .cases h
   .injection h with h;subst h;simp only[q'];exact ua.trans g e
   .cases h
   .exact d
  .cases h
  .exact h2
 |a,.sl S r,c,d,h2=>by
  rcases h2.inv with rfl|⟨_,h,_⟩|⟨_,_,h,_⟩|⟨_,_,h,_⟩|⟨S',l',q,h,rfl,e⟩|rfl
  .exact q'.Ta _
  .cases h
  .cases h
  .cases h
  .injection h with i f;subst i;subst f;rcases d.inv with h|⟨_,rfl,h⟩|⟨_,_,_,h,_⟩|⟨_,_,_,h,_⟩|⟨_,l,_,rfl,h,g⟩|rfl
   .cases h
   .injection h with i f;subst f;simp only[ua]at e;subst e;simp[q']
   .cases h
   .cases h
   .injection h with i f;subst i;subst f;simp only[q',R1];exact ua.trans g e
   .exact h2
  .exact d
 |a,.v x,c,d,h2=>by
  rcases d.inv with h|⟨_,_,h⟩|⟨_,_,_,h,_⟩|⟨_,_,_,h,_⟩|⟨_,_,_,_,h,_⟩|rfl<;>first|cases h|exact h2
 |a,.pt x,c,d,h2=>by
  rcases d.inv with h|⟨_,_,h⟩|⟨_,_,_,h,_⟩|⟨_,_,_,h,_⟩|⟨_,_,_,_,h,_⟩|rfl<;>first|cases h|exact h2
 |a,.ref _ _ _ _,c,d,h2=>by
  rcases d.inv with h|⟨_,_,h⟩|⟨_,_,_,h,_⟩|⟨_,_,_,h,_⟩|⟨_,_,_,_,h,_⟩|rfl<;>first|cases h|exact h2
 |a,.own _ _,c,d,h2=>by
  rcases d.inv with h|⟨_,_,h⟩|⟨_,_,_,h,_⟩|⟨_,_,_,h,_⟩|⟨_,_,_,_,h,_⟩|rfl<;>first|cases h|exact h2
 |a,.view _ _ _ _,c,d,h2=>by
  rcases d.inv with h|⟨_,_,h⟩|⟨_,_,_,h,_⟩|⟨_,_,_,h,_⟩|⟨_,_,_,_,h,_⟩|rfl<;>first|cases h|exact h2
 |a,.fn _ _ _,c,d,h2=>by
  rcases d.inv with h|⟨_,_,h⟩|⟨_,_,_,h,_⟩|⟨_,_,_,h,_⟩|⟨_,_,_,_,h,_⟩|rfl<;>first|cases h|exact h2
 |a,.mp _,c,d,h2=>by
  rcases d.inv with h|⟨_,_,h⟩|⟨_,_,_,h,_⟩|⟨_,_,_,h,_⟩|⟨_,_,_,_,h,_⟩|rfl<;>first|cases h|exact h2
 |a,.ifc _ _,c,d,h2=>by
  rcases d.inv with h|⟨_,_,h⟩|⟨_,_,_,h,_⟩|⟨_,_,_,h,_⟩|⟨_,_,_,_,h,_⟩|rfl<;>first|cases h|exact h2
theorem ua.trans:∀{a b c:List D},ua a b->ua b c->ua a c
 |[],b,c,f,h2=>by simp only[ua]at f;subst f;exact h2
 |d::a,b,c,f,h2=>by
  simp only[ua]at f;obtain⟨e,r,rfl,g,h⟩:=f;simp only[ua]at h2;obtain⟨e',r',rfl,k3,k4⟩:=h2;exact ua.cons (q'.trans g k3) (ua.trans h k4)
end
theorem At.trans{a b c:St}(d:At a b) (h2:At b c):At a c:=by
 obtain⟨d,g,k1⟩:=d;obtain⟨h2,e,k2⟩:=h2;exact⟨d.trans h2,e++g,l5⟩
def tY(N:Nat) (K:Exit->St->Prop):Prop:=∀s s',At s' s->Ω N s->K .normal s->K .normal s'
theorem XU{s S:St}(j9:At s S) (hb:Ω N S):∀(G:Gh) (w:a42) (a:Act),N<=G.n->o? G w a s->∃G',o? G' w a S/\y? N G w s.m G' w S.m:=by
 intro G w a hN' d;obtain⟨E,g,h2⟩:=j9;obtain⟨hN,ht,z⟩:=hb;have v:S.m=s.m.take S.m.length:=l5
 have hk:S.m.length<=s.m.length:=o4
 have hm:(s.m.take S.m.length).all (Ent.below S.m.length)=a38:=o4
 have hr:o? G w a ⟨S.t,s.m⟩:=⟨E.rel d.t,d.inv,d.defers⟩;generalize r:S.m.length=k at *;obtain⟨St,Sm⟩:=S;simp only at v ht r hr;subst v;clear d h2 r z;have hi:=hr.inv;have c:∀(i:Nat) e,(s.m.take k)[i]?=M e->i<k/\s.m[i]?=M e:=by
  grind
 have q:Inv (G.trim k) w (s.m.take k):=by
  refine⟨by grind[Gh.trim],hi.F,λi e he=>?_,λi j e e' he x hl y b hb o=>hi.apart i j e e' (c i e he).2 (c j e' x).2 hl y b hb o,hi.gl.bare λ_ h=>h⟩;have hbe:e.below k=a38:=R'.1 hm e (List.mem_of_getElem? he);have f:=hi.ent i e (c i e he).2
  cases e with
  |live S Va l=>
   obtain⟨a1,a2,a3,a4,a5⟩:=f;refine⟨a1,a2,a3,a4,?_⟩;rcases a5 with a5|⟨B,cs,T,o,I,p,A,u⟩
   .exact .inl a5
   .exact .inr ⟨B,cs,T,o,I,p,A,u.trim (by grind[Ent.below])⟩
  |mp es=>
   obtain⟨a1,b,D,C,a2,a3,a4,a5⟩:=f;exact⟨a1,b,D,C,a2,a3,a4,a5.trim (by grind[Ent.below])⟩
  |gone=>trivial
 refine⟨G.trim k,⟨hr.t.trim ht,q,hr.defers⟩,⟨λ_ h=>h,λ_ _=>rfl,hN,λi hi'=>.inl ⟨rfl,rfl,rfl,rfl,rfl⟩,rfl,rfl,rfl,x? _,λ_ _ _=>rfl,λ_ _ h=>.inl h,?_⟩⟩;rintro b hb ⟨i,e,he,hl,H⟩;exact⟨i,e,(c i e he).2,hl,H⟩
def HU(N:Nat) (K:Exit->St->Prop) (e:Exit) (s:St):Prop:=∀(G:Gh) (w:a42) (a:Act),N<=G.n->o? G w a s->∃s' G',K e s'/\o? G' w a s'/\y? N G w s.m G' w s'.m
theorem HU.of{K:Exit->St->Prop}{e:Exit}{s:St}(h:K e s):HU N K e s:=λG w a hN hr=>⟨s,G,h,hr,y?.refl _ _ _ hN⟩
theorem T.clo{c:C}{K:Exit->St->Prop}{s:St}(h:Tm.T P N c (HU N K) s):Tm.T P N c K s:=by
 intro code hc G w a hN hr;refine Code.wp_mono ?_ (h code hc G w a hN hr);rintro e a' w' ⟨s',G',i,f,b⟩;obtain⟨g,d,j,k,k3⟩:=i G' w' a' b.n f;exact⟨g,d,j,k,b.trans k3⟩
theorem bc0{K:Exit->St->Prop}:tY N (HU N K):=by
 intro s s' e h2 f G w a hN hr;obtain⟨G',g,d⟩:=XU e h2 G w a hN hr;obtain⟨c,b,m1,m2,m3⟩:=f G' w a d.n g;exact⟨c,b,m1,m2,d.trans m3⟩
theorem T.at{c:C}{K:Exit->St->Prop}{s S:St}(e:At s S) (hb:Ω N S) (h:Tm.T P N c K S):Tm.T P N c K s:=by
 obtain⟨d,g,h2⟩:=e;obtain⟨a,b,b3⟩:=hb;refine T.sub S.t d ?_;refine T.trim S.m.length a o4 b l5 ?_
 simp_all
theorem T.Vo{a b:C}{K:Exit->St->Prop}{s:St}(h:Tm.T P N a (KS P N b K) s):Tm.T P N (.seq a b) K s:=T.seq (h.mono λe s' c=>by cases e<;>exact c)
theorem FA{b:C}{K:Exit->St->Prop}:tY N (KS P N b K):=λs s' a h2 c=>T.at a h2 c
def bc1{K:Exit->St->Prop}(h:tY N K):tY N (KB id K):=h
def KM{X:Type}(id:Nat) (K:Exit->St->Prop) (S:X->St) (wx fin:X->Prop) (μ:X->Nat) (y:X) (e:Exit) (s':St):Prop:=
 match e with|.normal=>∃z,wx z/\μ z<μ y/\At s' (S z)|.exit j=>if j=id then(∃z,fin z/\At s' (S z))else K (.exit j) s'|e=>K e s'
section
variable {X:Type} {id:Nat} {K:Exit->St->Prop} {S:X->St} {wx fin:X->Prop} {μ:X->Nat} {y:X} {s':St}
def Ws:KM id K S wx fin μ y .normal s' = ∃z,wx z/\μ z<μ y/\At s' (S z):=d?
def Hv:KM id K S wx fin μ y (.exit j) s'=if j=id then(∃z,fin z/\At s' (S z))else K (.exit j) s':=d?
end
def KI(id n:Nat) (K:Exit->St->Prop) (S:Nat->St) (i:Nat) (e:Exit) (s':St):Prop:=
 match e with|.normal=>i<n/\At s' (S (i+1))|.exit j=>if j=id then i=n/\At s' (S n)else K (.exit j) s'|e=>K e s'
section
variable {id n i:Nat} {K:Exit->St->Prop} {S:Nat->St} {s':St}
def Pn:KI id n K S i .normal s'=(i<n/\At s' (S (i+1))):=d?
def oD:KI id n K S i (.exit j) s'=if j=id then i=n/\At s' (S n)else K (.exit j) s':=d?
end
theorem bb9{K:Exit->St->Prop}{S:X->St}{wx fin:X->Prop}{μ:X->Nat}{y:X}:tY N (KM id K S wx fin μ y):=by
 rintro s s' a - ⟨z,b,c,k3⟩;exact⟨z,b,c,a.trans k3⟩
theorem T.aV{x:C}{K:Exit->St->Prop}{s:St}(S:X->St) (wx fin:X->Prop) (μ:X->Nat) (x₀:X) (d:wx x₀) (g:At s (S x₀))
 (hb:∀y,wx y\/fin y->Ω N (S y))
 (round:∀y,wx y->Tm.T P N x (KM id K S wx fin μ y) (S y))
 (a:(∃z,fin z)->tY N K) (rest:∀z,fin z->K .normal (S z)):Tm.T P N (.block id (.loop x)) K s:=by
 refine T.at g (hb x₀ (.inl d)) ?_;refine T.block (T.loopS S wx μ x₀ d (ua.Hb _) rfl (λy b=>hb y (.inl b)) λy b=>(round y b).mono ?_);intro e s' h
 cases e with
 |normal=>obtain⟨z,f,h2,h3,h4⟩:=h;grind
 |exit j=>
  simp only[Hv]at h⊢;split at h
  .rename_i hj;rw[J hj];obtain⟨z,c,f⟩:=h;exact a ⟨z,c⟩ (S z) s' f (hb z (.inr c)) (rest z c)
  simp_all
 |_=>exact h
theorem T.X6{x:C}{K:Exit->St->Prop}{s:St}(n:Nat) (S:Nat->St) (b:At s (S 0)) (hb:∀i,i<=n->Ω N (S i))
 (round:∀i,i<=n->Tm.T P N x (KI id n K S i) (S i))
 (a:tY N K) (rest:K .normal (S n)):Tm.T P N (.block id (.loop x)) K s:=by
 refine T.aV (X:=Nat) S (λi=>i<=n) (λi=>i=n) (λi=>n-i) 0 (L! _) b (λy hy=>hb y U) (λi hi=>(round i hi).mono ?_) (λ_=>a) (λz hz=>l5);intro e s' h
 cases e with
 |normal=>
  simp only[Pn]at h;exact⟨i+1,h.1,o4,h.2⟩
 |exit j=>
  simp only[oD,Hv]at h⊢
  grind
 |_=>exact h
def ab6(d:D):Vt [d]=d:=d?
def ab7:Vt []=.tup []:=d?
def ab5(d e:D) (l:List D):Vt (d::e::l)=.tup (d::e::l):=d?
theorem av2{c:Prop} [Decidable c] (p:D×List Ent) (f:D->List Ent->Prop):Jv (if c then M p else s5) f=(c/\f p.1 p.2):=by
 by_cases h:c<;>simp[h,Jv]
theorem aJ4{α β:Type}{c:Prop} [Decidable c] (a:α) (g:α->β):(if c then M a else s5:Option α).map g=if c then M (g a)else s5:=by
 simp
theorem KA{n:Int}(h:-9223372036854775808<=n/\n<=9223372036854775807):aa .i64 n=n:=by
 grind[jD,IntKind.wrap_i64]
theorem aW8(a b:Nat):Int.fdiv (a:Int) (b:Int)=((a / b:Nat):Int):=(Int.fdiv_eq_ediv_of_nonneg _ U).trans U
section
variable {k:Nat} {m:List Ent} {id Va S lo n:Nat} {l:List D}
end
theorem ax8{n:Int}(h:0<=n/\n<18446744073709551616):aa .u64 n=n:=by grind[aa]
theorem fe(h:k<18446744073709551616):aa .u64 (k:Int)=(k:Int):=ax8 U
def at5:((0:Nat):Int)=0:=d?
def aw(b:Bool):bj (Op.unary .not (.bool b))=M (.bool (!b)):=d?
theorem UR(a b:Nat):((a:Int)<(b:Int))↔a<b:=U
theorem aR3{a b:List D}(ha:j? k a=a38) (hb:j? k b=a38):j? k (a++b)=a38:=by
 induction a with
 |nil=>grind
 |cons d a ih=>
  simp_all[j?]
theorem ao3{a b:List D}(ha:oa a=a38) (hb:oa b=a38):oa (a++b)=a38:=by
 grind[km]
theorem aI8(k:a48) (n:Int):bj (Op.unary .neg (.int k n))=M (.int k (aa k (-n))):=by
 show M (Value.int k (k.wrap (0-n)))=_
 grind[jD]
theorem aJ3(k:a48) (a b:Int):bj (Builtin.max_ #[] 0 [Value.int k a,Value.int k b].toArray)=M (.int k (max a b)):=by
 simp only[Builtin.max_,bj,oaf,bind_pure,Builtin.max2];by_cases h:a<b
 .rw[J h,Int.max_eq_right U];rfl
 .rw[p6 h,Int.max_eq_left U];rfl
theorem aJ1(k:a48) (a b:Int):bj (Builtin.min_ #[] 0 [Value.int k a,Value.int k b].toArray)=M (.int k (min a b)):=by
 simp only[Builtin.min_,bj,oaf,bind_pure,Builtin.min2];by_cases h:b<a
 .rw[J h,Int.min_eq_right U];rfl
 .rw[p6 h,Int.min_eq_left U];rfl
section
variable {α:Type} {l b c:List α} {a a' x:α}
end
open Go.RowKit (Below)
open Go.WideShapes
inductive Sh where
 |bool
 |int (k:a48)
 |str
 |sl (S B:Nat) (A:Bool) (e:Sh)
 |cat (l:List Sh)
def aggT(P:a44) (t:a45):Bool:=
 match P.underlying t with
 |some (.struct _)=>a38
 |some (.array _ _)=>a38
 |_=>a39
def Wy(f:a45->Option Sh) (P:a44):List Field->Nat->Option (List Sh×Nat)
 |[],off=>M ([],off)
 |g::gs,off=>
  if g.offset=off then
   match f g.type,Wy f P gs (off+P.cellsOf g.type)with
   |some s,M (l,e)=>M (s::l,e)
   |_,_=>s5
  else s5
def shOf(P:a44):Nat->a45->Option Sh
 |0,_=>s5
 |n+1,t=>
  match P.underlying t with
  |some .bool=>M .bool
  |some (.int k)=>M (.int k)
  |some .string=>M .str
  |some (.slice e)=>if 0<P.cellsOf e/\0<P.bytesOf e then(shOf P n e).map λs=>.sl (P.cellsOf e) (P.bytesOf e) (aggT P e) s else s5
  |some (.struct fs)=>
   match Wy (shOf P n) P fs.toList 0 with
   |some (l,e)=>if e=P.cellsOf t then M (.cat l)else s5
   |none=>s5
  |some (.array k e)=>if P.cellsOf t=k*P.cellsOf e then(shOf P n e).map λs=>.cat (k? k s)else s5
  |_=>s5
def Ev(A:Bool) (cs:List D):D:=bif A then .agg cs else cs.headD d!
mutual
def Wp:Sh->List D->Prop
 |.bool,ds=>∃b,ds=[.v (.bool b)]
 |.int k,ds=>∃n,ds=[.v (.int k n)]/\(Lit.int k n).wf=a38
 |.str,ds=>∃s:ByteArray,ds=[.v (.string s)]/\s.size<=maxLen
 |.sl S B A e,ds=>∃l,ds=[.sl S l]/\l.length*B<=140737488355328/\∀d∈l,∃cs,Wp e cs/\d=Ev A cs
 |.cat l,ds=>TA l ds
def TA:List Sh->List D->Prop
 |[],ds=>ds=[]
 |s::l,ds=>∃a b,ds=a++b/\Wp s a/\TA l b
end
theorem dL{G:Gh}{w:a42}:∀{a b:List D}{us vs:List a41},VsRel G w a us->VsRel G w b vs->VsRel G w (a++b) (us++vs)
 |[],b,us,vs,c,h2=>by simp only[VsRel]at c;simp_all
 |d::a,b,us,vs,c,h2=>by
  simp only[VsRel]at c;obtain⟨u,r,rfl,e,f⟩:=c;simp only[G?,VsRel];exact⟨u,_,rfl,e,dL f h2⟩
theorem TL{f:a45->Option Sh}{P:a44}:∀{fs:List Field}{off:Nat}{l:List Sh}{e:Nat},Wy f P fs off=M (l,e)->off<=e
 |[],off,l,e,h=>by grind[Wy]
 |g::gs,off,l,e,h=>by
  simp only[Wy]at h;split at h
  .split at h
   .rename_i s l' e' h1 h2;simp at h;have:=TL h2;omega
   .cases h
  .cases h
def R0(w:a42):Gh:=Gh.bare λb=>b<w.heap.size
theorem jV{a:Addr}{v:a41}(h:w.cell? a=M v):a.block<w.heap.size:=by
 grind[World.cell?]
section
variable {H:Type} {enc:a45×a41->H} {P:a44} {w:a42} {base:Nat} {spare:Nat->Bool} {held:Bool}
theorem rz{P:a44}{e:a45}:∀{l:List (DataW H)}{d:DataW H},d∈l->∀n∈d.weights P e,n∈DataW.weightsAll P e l
 |[],_,h=>by cases h
 |x::l,d,h=>by
  intro n hn;simp only[DataW.weightsAll,Z?];rcases Z'.1 h with rfl|h
  .simp_all
  .exact .inr (rz h n hn)
theorem xL{n fuel:Nat}{cs:List a41}(m:∀t cs x s,shOf P n t=M s->DataW.trod enc P w base spare held fuel t cs=M x->(∀n∈x.1.weights P t,n<=reachBytes)->∃ds,Wp s ds/\VsRel (R0 w) w ds cs/\∀c∈cs,one c=a38) :
 ∀(fs:List Field) (off:Nat) (l:List Sh) (e:Nat),Wy (shOf P n) P fs off=M (l,e)->
  (∀f∈fs,∃x,DataW.trod enc P w base spare held fuel f.type ((cs.drop f.offset).take (P.cellsOf f.type))=M x/\∀n∈x.1.weights P f.type,n<=reachBytes)->
  ∃ds,TA l ds/\VsRel (R0 w) w ds ((cs.drop off).take (e-off))/\∀c∈(cs.drop off).take (e-off),one c=a38
 |[],off,l,e,h,_=>by
  simp[Wy]at h;obtain⟨rfl,rfl⟩:=h;refine⟨[],by simp[TA],by simp[VsRel],o0⟩
 |g::gs,off,l,e,h,hx=>by
  simp only[Wy]at h;split at h
  .rename_i d;split at h
   .rename_i s l' e' o h2;simp only[T',H!]at h;obtain⟨rfl,rfl⟩:=h;obtain⟨x,k,j⟩:=hx g o0;obtain⟨a,k1,p,k3⟩:=m _ _ _ _ o k j;obtain⟨b,m1,m2,m3⟩:=xL m gs _ _ _ h2 λf hf=>hx f o4;have hle:=TL h2;have i:(cs.drop off).take (e'-off)=(cs.drop g.offset).take (P.cellsOf g.type)++(cs.drop (off+P.cellsOf g.type)).take (e'-(off+P.cellsOf g.type)):=by
     rw[show e'-off=P.cellsOf g.type+(e'-(off+P.cellsOf g.type)) by omega,List.take_add,Yad,d]
    rw[i];refine⟨a++b,by simp only[TA];grind,dL p m2,λc hc=>?_⟩
    grind
   .cases h
  .cases h
theorem YW{n fuel S:Nat}{cs:List a41}{e:a45}{s:Sh}(h:∀cs x,DataW.trod enc P w base spare held fuel e cs=M x->(∀n∈x.1.weights P e,n<=reachBytes)->∃ds,Wp s ds/\VsRel (R0 w) w ds cs/\∀c∈cs,one c=a38) :
 ∀(k i:Nat),(∀j,i<=j->j<i+k->∃x,DataW.trod enc P w base spare held fuel e ((cs.drop (j*S)).take S)=M x/\∀n∈x.1.weights P e,n<=reachBytes)->
  ∃ds,TA (k? k s) ds/\VsRel (R0 w) w ds ((cs.drop (i*S)).take (k*S))/\∀c∈(cs.drop (i*S)).take (k*S),one c=a38
 |0,i,_=>⟨[],by simp[TA],by simp[VsRel],o0⟩
 |k+1,i,hx=>by
  obtain⟨x,g,f⟩:=hx i (x? _) U;obtain⟨a,k1,l,k3⟩:=h _ _ g f;obtain⟨b,m1,m2,m3⟩:=YW (n:=n) h k (i+1) λj h1 h2=>hx j U U;have d:(cs.drop (i*S)).take ((k+1)*S)=(cs.drop (i*S)).take S++(cs.drop ((i+1)*S)).take (k*S):=by
   grind[Nat.succ_mul,Yad]
  rw[d];refine⟨a++b,by simp only[List.replicate_succ,TA];grind,dL l m2,λc hc=>?_⟩
  grind
theorem QX{A:Bool}{ds:List D}{cs:List a41}(h:VsRel (R0 w) w ds cs) (f:∀c∈cs,one c=a38) (hA:A=a39->cs.length=1) :
 ∃u:a41,VRel (R0 w) w (Ev A ds) u/\u.cells=cs.toArray/\(A=a38->u=.agg cs.toArray)/\(A=a39->∃c,cs=[c]/\u=c):=by
 cases A with
 |true=>exact⟨.agg cs.toArray,by simp only[Ev,cond_true,VRel];simp_all,rfl,λ_=>rfl,λh=>by cases h⟩
 |false=>
  match cs,hA rfl with
  |[c],_=>
   match ds,h with
   |d::r,h=>
    simp only[VsRel]at h;obtain⟨u,us,hu,hv,hr⟩:=h;injection hu with e hu2;subst e;have b:=f c o0;have a:c.cells=[c].toArray:=by cases c<;>simp[one]at b<;>rfl
    exact⟨c,by grind[Ev],a,λh=>Bool.noConfusion h,λ_=>⟨c,rfl,rfl⟩⟩
theorem ae8{n:Nat}{t:a45}{s:Sh}(h:shOf P n t=M s) {fuel:Nat}{cs:List a41}{x:DataW H×List MemPlace}(hx:DataW.trod enc P w base spare held fuel t cs=M x):aggT P t=a39->cs.length=1:=by
 intro hA
 cases n with
 |zero=>grind[shOf]
 |succ n=>
  simp only[shOf]at h;simp only[aggT]at hA;split at h
  .rename_i hu;obtain⟨b,rfl,_⟩:=DataW.trod_bool hu hx;rfl
  .rename_i hu;obtain⟨b,rfl,_⟩:=DataW.trod_int hu hx;rfl
  .rename_i hu;obtain⟨b,rfl,_⟩:=DataW.trod_string hu hx;rfl
  .rename_i hu;rcases DataW.trod_slice hu hx with⟨rfl,_⟩|⟨a,len,cap,elems,rest,m,_,rfl,_⟩<;>rfl
  all_goals simp_all
theorem nG:∀(n:Nat) (fuel:Nat) (t:a45) (cs:List a41) (x:DataW H×List MemPlace) (s:Sh),shOf P n t=M s->DataW.trod enc P w base spare held fuel t cs=M x->(∀n∈x.1.weights P t,n<=reachBytes)->
 ∃ds,Wp s ds/\VsRel (R0 w) w ds cs/\∀c∈cs,one c=a38
 |0,fuel,t,cs,x,s,h,_,_=>by grind[shOf]
 |n+1,fuel,t,cs,x,s,h,hx,o=>by
  simp only[shOf]at h;split at h
  .rename_i hu;injection h with h;subst h;obtain⟨b,rfl,_⟩:=DataW.trod_bool hu hx;exact⟨[.v (.bool b)],by simp only[Wp];simp,by simp[VsRel,VRel],by simp[one]⟩
  .rename_i k hu;injection h with h;subst h;obtain⟨b,rfl,_,hw⟩:=DataW.trod_int hu hx;exact⟨[.v (.int k b)],by simp only[Wp];simp_all,by simp[VsRel,VRel],by simp[one]⟩
  .rename_i hu;injection h with h;subst h;obtain⟨b,rfl,_,hw⟩:=DataW.trod_string hu hx;exact⟨[.v (.string b)],by simp only[Wp];simp_all,by simp[VsRel,VRel],by simp[one]⟩
  .rename_i e hu;split at h
   .rename_i hpos;simp only[A']at h;obtain⟨G,p,rfl⟩:=h;rcases DataW.trod_slice hu hx with⟨rfl,_⟩|⟨a,len,cap,elems,rest,m,_,rfl,rfl,hb,hl,hm,g,K,_,_⟩
    .refine⟨[.sl (P.cellsOf e) []],by simp only[Wp];simp,?_,by simp[one]⟩;simp only[VsRel,VRel]
     grind
    .simp only[DataW.weights,hu,Z',Z?]at o;have L:=o _ (.inl rfl);have hle:len*P.bytesOf e<=140737488355328:=by
      simp only[Mab]at L;have C:=Nat.mul_le_mul_right (P.bytesOf e) (show len<=elems.length+rest.length by omega)
      grind[reachBytes]
     have each:∀i,i<len->∃d u,(∃cs,Wp G cs/\d=Ev (aggT P e) cs)/\VRel (R0 w) w d u/\u.cells.size=P.cellsOf e/\(∀j c,u.cells[j]?=M c->one c=a38/\w.cell? ((a.add (i*P.cellsOf e)).add j)=M c):=by
      intro i hi;have C:=K i hi;rw[n! U]at C;obtain⟨ecs,O,y⟩:=hac.1 C;obtain⟨ds,m1,m2,m3⟩:=nG n _ _ _ _ _ p y (λq hq=>o q (.inr (.inl (rz (Dae (y! _)) q hq))));obtain⟨_,q1,q2⟩:=World.cells?_some O;obtain⟨u,r1,r2,_,_⟩:=QX (A:=aggT P e) m2 m3 (ae8 p y)
      grind
     have F:∀k,k<=len->∃l:List D,l.length=k/\(∀d∈l,∃cs,Wp G cs/\d=Ev (aggT P e) cs)/\∀(i:Nat) d,l[i]?=M d->∃u,VRel (R0 w) w d u/\u.cells.size=P.cellsOf e/\(∀j c,u.cells[j]?=M c->one c=a38/\w.cell? ((a.add (i*P.cellsOf e)).add j)=M c):=by
      intro k
      induction k with
      |zero=>simp
      |succ k W=>
       intro hk;obtain⟨l,R,X,Q⟩:=W U;obtain⟨d,u,d1,d2,d3,d4⟩:=each k U;refine⟨l++[d],o4,λd' j9=>?_,λi d' j9=>?_⟩
       all_goals grind
     obtain⟨l,R,X,Q⟩:=F len (x? _);refine⟨[.sl (P.cellsOf e) l],by simp only[Wp];simp_all,?_,by simp[one]⟩;simp only[VsRel,VRel];refine⟨_,_,rfl,⟨M a,len,cap,rfl,R.symm,hl,?_⟩,rfl⟩
     cases l with
     |nil=>simp
     |cons j8 l'=>
      obtain⟨T,_,us,uc⟩:=Q 0 j8 rfl;have V:∃c,T.cells[0]?=M c:=⟨T.cells[0]' U,Array.getElem?_eq_getElem U⟩;obtain⟨c,hc⟩:=V;have z:=(uc 0 c hc).2;have E:(a.add (0*P.cellsOf e)).add 0=a:=by simp[Addr.add]
      rw[E]at z;obtain⟨b,off,spot⟩:=a;have B:spot=s5:=by simpa using World.cell?_spot z
      subst B;refine .inr ⟨b,off,rfl,jV z,?_⟩;rw[bg];intro i d hd;obtain⟨u,Y,Z,u3⟩:=Q i d hd;refine⟨u,Y,Z,λj c hj=>?_⟩;obtain⟨c1,c2⟩:=u3 j c hj;refine⟨c1,?_⟩;have haddr:(Addr.add (Addr.add ⟨b,off,s5⟩ (i*P.cellsOf e)) j)=⟨b,off+i*P.cellsOf e+j,s5⟩:=by
       unfold Addr.add
       grind
      simp_all
   .cases h
  .rename_i fs hu;split at h
   .rename_i l e j6;split at h
    .rename_i he;injection h with h;subst h;obtain⟨xs,m,rfl,rfl,g,N,r⟩:=DataW.trod_struct hu hx;simp only[DataW.weights,hu]at o;obtain⟨ds,O,y,k3⟩:=xL (n:=n) (fuel:=m) (cs:=cs) (λt cs x s C h2 I=>nG n _ _ _ _ _ C h2 I) fs.toList 0 l e j6 (λf hf=>by
      obtain⟨i,hi,hfi⟩:=List.mem_iff_getElem.1 hf;have hi':i<fs.size:=U
      have:=r i f l5;rw[n! U]at this;exact⟨_,this,λq hq=>o q (DataW.weights_mem_each (j:=i) (t:=f.type) (d:=(xs[i]' U).1) l5 l5 q hq)⟩)
     rw[qad,vad,he,←g,ν]at y k3;exact⟨ds,by simp only[Wp];omega,y,k3⟩
    .cases h
   .cases h
  .rename_i k e hu;split at h
   .rename_i he;simp only[A']at h;obtain⟨G,p,rfl⟩:=h;obtain⟨xs,m,rfl,rfl,g,N,r⟩:=DataW.trod_array hu hx;simp only[DataW.weights,hu]at o;obtain⟨ds,O,y,k3⟩:=YW (n:=n) (fuel:=m) (S:=P.cellsOf e) (cs:=cs) (e:=e) (s:=G) (λcs x h2 I=>nG n _ _ _ _ _ p h2 I) k 0 (λj _ hj=>by
     grind[rz,Dae,y!])
    rw[Nat.zero_mul,qad,←he,←g,ν]at y k3;exact⟨ds,by simp only[Wp];omega,y,k3⟩
   .cases h
  .cases h
def LookV(A:Bool) (s:Sh) (d:D):Prop:=∃ds,Wp s ds/\d=Ev A ds
theorem arg_tree{n:Nat}{t:a45}{s:Sh}{v:a41}{d:DataW H}{p:List MemPlace}{r:Reach}{f:Nat}(h:shOf P n t=M s) (hx:DataW.Trod enc P w base spare held t v d p) (hv:Value.okWide P w r f t v) (e:∀n∈d.weights P t,n<=reachBytes) :
 ∃d',LookV (aggT P t) s d'/\VRel (R0 w) w d' v:=by
 obtain⟨fuel,hx⟩:=hx;obtain⟨ds,g,i,k3⟩:=nG n _ _ _ _ _ h hx e;obtain⟨u,u1,u2,j,k⟩:=QX (A:=aggT P t) i k3 (ae8 h hx);refine⟨Ev (aggT P t) ds,⟨ds,g,rfl⟩,?_⟩;have:u=v:=by
  cases hA:aggT P t with
  |true=>
   rw[j hA];unfold aggT at hA;split at hA
   .rename_i hu;simp only[Value.okWide,hu]at hv;obtain⟨cs,rfl,_⟩:=hv;simp[Value.cells]
   .rename_i hu;simp only[Value.okWide,hu]at hv;obtain⟨cs,rfl,_⟩:=hv;simp[Value.cells]
   simp_all
  |false=>
   obtain⟨c,hc,rfl⟩:=k hA
   cases n with
   |zero=>grind[shOf]
   |succ n=>
    simp only[shOf]at h;unfold aggT at hA;split at h
    .rename_i hu;obtain⟨b,rfl⟩:=okWide_bool hu hv;grind[Value.cells]
    .rename_i hu;obtain⟨b,rfl⟩:=okWide_int hu hv;grind[Value.cells]
    .rename_i hu;obtain⟨b,rfl⟩:=okWide_string hu hv;grind[Value.cells]
    .rename_i hu;obtain⟨a,l,c',rfl⟩:=okWide_slice hu hv;grind[Value.cells]
    all_goals simp_all
 simp_all
end
theorem rX{G':Gh}(h:Step G w [] G' w' m'):Below w.heap.size w w':=
 ⟨h.os,h.tape,h.output,h.size,λk hk=>h.keep k hk λ⟨i,e,he,_⟩=>by simp at he⟩
theorem gok_tab{P:a44}{W:a42}{name:String}(i:P.globalNamed name=M 0) (f:Go.Lib.TabIs P W name .i64 [31,28,31,30,31,30,31,31,30,31,30,31]):GOK (R0 W) W:=by
 intro g d h;unfold gtab at h;split at h
 .injection h with h;subst h;have hc:=f.cell i;refine(by
   simp only[VRel];refine⟨0,0,.agg (([31,28,31,30,31,30,31,31,30,31,30,31]:List Int).map λn=>Value.int .i64 n).toArray,rfl,?_,⟨_,rfl,?_,?_⟩,?_⟩
   .exact jV (a:=⟨0,0,s5⟩) (hc 0 p5)
   .simp only[D?,R?,VsRel,VRel];simp
   .intro c hc;simp only[D?,R?,Z',List.not_mem_nil,or_false]at hc;rcases hc with rfl|rfl|rfl|rfl|rfl|rfl|rfl|rfl|rfl|rfl|rfl|rfl<;>rfl
   .intro j c hj;have e:(([31,28,31,30,31,30,31,31,30,31,30,31]:List Int).map λn=>Value.int .i64 n)[j]?=M c:=by grind[Value.cells]
    obtain⟨hlt,b⟩:=dab.1 e;have hlt':j<([31,28,31,30,31,30,31,31,30,31,30,31]:List Int).length:=o4
    rw[List.getElem_map]at b;subst b;refine⟨rfl,?_⟩
    simp_all:VRel (R0 W) W (.pt (.agg ([31,28,31,30,31,30,31,31,30,31,30,31].map λn=>.v (.int .i64 n)))) (.pointer (M ⟨0,0,s5⟩)))
 .cases h
theorem law_walk{P:a44}{f:a47}{ds:List D}(h:CallT P f ds [] λd _=>d=.v (.bool a38)) (hv:VsRel (R0 w) w ds vs) (b:GOK (R0 w) w) :
 Calls P f vs.toArray w λe w'=>e=.returned (.bool a38)/\Below w.heap.size w w':=by
 refine(h.2 (R0 w) w vs hv (NI (λ_ h=>h) b)).mono ?_;rintro e w' ⟨v,d,m',G',rfl,rfl,a,-,c⟩;simp only[VRel]at a;subst a;exact⟨rfl,rX c⟩
variable {P:a44}
def bs0(op:BinOp) (j k:a48) (a b:Int):bj (binOp op 0 (.int j a) (.int k b))=kj op j a k b:=(aR1 ..).symm
def ax9(k:a48) (n:Int):k.wrap n=aa k n:=(jD k n).symm
variable {P:a44}
abbrev Iv:=List (Option Nat×Nat×Nat)
variable {os:Iv}
def Gx(ρ:Iv) (j:Nat):Bool:=ρ.all λo=>match o.1 with|some k=>k !=j|none=>a38
inductive q! (ρ:Iv) (m:List Ent):List D->List D->Prop
 |nil:q! ρ m [] []
 |same {d l r} (hf:xa d=a38) (h:q! ρ m l r):q! ρ m (d::l) (d::r)
 |dead {d l r} (h:q! ρ m l r):q! ρ m (d::l) (d!::r)
 |nils {S l r} (h:q! ρ m l r):q! ρ m (.v (.slice s5 0 0)::l) (.sl S []::r)
 |wE {S u l r} (i:Nat) (hi:ρ[i]?=M (s5,S,u)) (h:q! ρ m l r):q! ρ m (.v (.slice s5 0 0)::l) (.own i u::r)
 |agg {a b l r} (ha:q! ρ m a b) (h:q! ρ m l r):q! ρ m (.agg a::l) (.agg b::r)
 |tup {a b l r} (ha:q! ρ m a b) (h:q! ρ m l r):q! ρ m (.tup a::l) (.tup b::r)
 |sl {S a b l r} (ha:q! ρ m a b) (h:q! ρ m l r):q! ρ m (.sl S a::l) (.sl S b::r)
 |own {j v u i l r} (hi:ρ[i]?=M (M j,v,u)) (h:q! ρ m l r):q! ρ m (.own j v::l) (.own i u::r)
 |ref {j v u i x s l r} (hi:ρ[i]?=M (M j,v,u)) (h:q! ρ m l r):q! ρ m (.ref j v x s::l) (.ref i u x s::r)
 |view {j v u i lo n l r} (hi:ρ[i]?=M (M j,v,u)) (h:q! ρ m l r):q! ρ m (.view j v lo n::l) (.view i u lo n::r)
 |mp {j i l r} (hi:ρ[i]?=M (M j,0,0)) (h:q! ρ m l r):q! ρ m (.mp j::l) (.mp i::r)
 |Lg {S j v a b l r} (hm:m[j]?=M (.live S v a)) (ho:Gx ρ j=a38) (ha:q! ρ m a b) (h:q! ρ m l r):q! ρ m (.own j v::l) (.sl S b::r)
 |fview {S j v lo n a b l r} (hm:m[j]?=M (.live S v a)) (ho:Gx ρ j=a38) (hn:lo+n<=a.length) (ha:q! ρ m ((a.drop lo).take n) b) (h:q! ρ m l r):q! ρ m (.view j v lo n::l) (.sl S b::r)
 |fref {S j v x a d e l r} (hm:m[j]?=M (.live S v a)) (ho:Gx ρ j=a38) (hx:a[x]?=M d) (ha:q! ρ m [d] [e]) (h:q! ρ m l r):q! ρ m (.ref j v x 0::l) (.pt e::r)
 |pt {d e l r} (ha:q! ρ m [d] [e]) (h:q! ρ m l r):q! ρ m (.pt d::l) (.pt e::r)
 |fn {f a b c d l r} (ha:q! ρ m a b) (hc:q! ρ m c d) (h:q! ρ m l r):q! ρ m (.fn f a c::l) (.fn f b d::r)
 |ifc {t d e l r} (ha:q! ρ m [d] [e]) (h:q! ρ m l r):q! ρ m (.ifc t d::l) (.ifc t e::r)
def frM(es:List (a41×D)):Bool:=es.all λp=>xa p.2
inductive Ets (ρ:Iv) (m:List Ent):Iv->List Ent->Prop
 |nil:Ets ρ m [] []
 |live {j v u S l l' os es} (hm:m[j]?=M (.live S v l)) (hl:q! ρ m l l') (h:Ets ρ m os es):Ets ρ m ((M j,v,u)::os) (.live S u l'::es)
 |new {S u os es} (h:Ets ρ m os es):Ets ρ m ((s5,S,u)::os) (.live S u []::es)
 |mp {j es os ees} (hm:m[j]?=M (.mp es)) (hf:frM es=a38) (h:Ets ρ m os ees):Ets ρ m ((M j,0,0)::os) (.mp es::ees)
variable {m:List Ent}
structure aS4 (ρ:Iv) (s S:St):Prop where
 t:q! ρ s.m s.t S.t
 m:Ets ρ s.m ρ S.m
 one:(ρ.filterMap (·.1)).Nodup
variable {S:St}
def Eb(G:Gh) (m:List Ent) (ρ:Iv):Gh where
 F b:=G.F b\/(Mg G m b/\∀(i j:Nat) v,ρ[i]?=M (M j,v)->G.B j≠M b)
 n:=ρ.length
 B i:=match ρ[i]? with|some (M j,_)=>G.B j|_=>s5
 V i:=match ρ[i]? with|some (_,_,u)=>u|_=>0
 S i:=match ρ[i]? with|some (M j,_)=>G.S j|some (s5,S,_)=>S|_=>0
 N i:=match ρ[i]? with|some (M j,_)=>G.N j|_=>0
 C i:=match ρ[i]? with|some (M j,_)=>G.C j|_=>(0,0)
theorem Q4{ρ:Iv}(h:Gx ρ j=a38):∀(i k:Nat) v,ρ[i]?=M (M k,v)->k≠j:=by
 grind[Gx]
theorem YK{ρ:Iv}(hi:Inv G w m) (d:∀(i j:Nat) v,ρ[i]?=M (M j,v)->∃e:Ent,m[j]?=M e/\e.isLive=a38) {e:Ent}(hm:m[j]?=M e) (hl:e.isLive=a38) (ho:Gx ρ j=a38) {b:Nat}(hb:G.B j=M b):(Eb G m ρ).F b:=by
 refine .inr ⟨⟨j,e,hm,hl,hb⟩,λi k v a g=>?_⟩;obtain⟨e',c,f⟩:=d i k v a;exact Q4 ho i k v a (hi.apart k j e' e c hm f hl b g hb)
theorem q!.length{ρ:Iv}{m:List Ent}{l r:List D}(h:q! ρ m l r):l.length=r.length:=by
 induction h<;>simp_all
theorem PH{ρ:Iv}{o:Option Nat×Nat×Nat}(h:ρ[i]?=M o):i<ρ.length:=by
 grind
theorem q!.rel{ρ:Iv}(hi:Inv G w m) (z:∀(i j:Nat) v,ρ[i]?=M (M j,v)->∃e:Ent,m[j]?=M e/\e.isLive=a38/\(∀S E l,e=.live S E l->E=v.1)) {l:List D}(h:q! ρ m l r) :
 (∀us,VsRel G w l us->VsRel (Eb G m ρ) w r us)/\(∀b S off,Xa G w b S l off->Xa (Eb G m ρ) w b S r off):=by
 have y:∀(i j:Nat) v,ρ[i]?=M (M j,v)->∃e:Ent,m[j]?=M e/\e.isLive=a38:=λi j v h=>o4
 have both:∀{d e:D} {l r:List D},(∀u,VRel G w d u->VRel (Eb G m ρ) w e u)->
  ((∀us,VsRel G w l us->VsRel (Eb G m ρ) w r us)/\(∀b S off,Xa G w b S l off->Xa (Eb G m ρ) w b S r off))->
  ((∀us,VsRel G w (d::l) us->VsRel (Eb G m ρ) w (e::r) us)/\(∀b S off,Xa G w b S (d::l) off->Xa (Eb G m ρ) w b S (e::r) off)):=by
  intro d e l r h1 h2;refine⟨λus hv=>?_,λb S off hv=>?_⟩
  .simp only[VsRel]at hv⊢
   grind
  .simp only[Xa]at hv⊢
   grind
 have first:∀{d e:D},(∀us,VsRel G w [d] us->VsRel (Eb G m ρ) w [e] us)->∀u,VRel G w d u->VRel (Eb G m ρ) w e u:=by
  intro d e h u hu;have:=h [u] (by simp only[VsRel];simp_all);simp only[VsRel]at this
  simp_all
 induction h with
 |nil=>exact⟨λus h=>by simpa [VsRel] using h,λ_ _ _ _=>by simp[Xa]⟩
 |same hf h o=>exact both (λu hu=>VRel.free (G':=Eb G m ρ) ⟨λ_ h=>Or.inl h,λ_ _=>rfl⟩ hf hu) o
 |dead h o=>exact both (λu _=>I?) o
 |nils h o=>exact both (λu hu=>by simp only[VRel]at hu⊢;grind) o
 |wE i k h o=>
  refine both (λu hu=>?_) o;simp only[VRel]at hu⊢;exact⟨s5,0,0,hu,PH k,by grind[Eb],λ_=>by grind[Eb]⟩
 |agg ha h q o=>
  refine both (λu hu=>?_) o;simp only[VRel]at hu⊢
  grind
 |tup ha h q o=>
  refine both (λu hu=>?_) o;simp only[VRel]at hu⊢
  grind
 |sl ha h q o=>
  refine both (λu hu=>?_) o;simp only[VRel]at hu⊢;obtain⟨a,n,cap,rfl,hn,hc,g⟩:=hu;refine⟨a,n,cap,rfl,by rw[←ha.length];omega,hc,?_⟩;rcases g with rfl|⟨b,off,rfl,B,hr⟩
  .exact .inl (Δ ha.length.symm)
  .exact .inr ⟨b,off,rfl,.inl B,q.2 b _ off hr⟩
 |own k h o=>
  refine both (λu hu=>?_) o;obtain⟨e,he,hl,hv⟩:=z _ _ _ k;simp only[VRel]at hu⊢;obtain⟨a,n,c,rfl,g1,g2,g3⟩:=hu;refine⟨a,n,c,rfl,PH k,by grind[Eb],λ_=>?_⟩;have f:=hi.ent _ _ he
  cases e with
  |live S E l'=>
   obtain⟨a1,_⟩:=f;have:=g3 o4
   grind[Eb]
  |mp es=>
   obtain⟨a1,_⟩:=f
   grind[Eb]
  |gone=>grind[Ent.isLive]
 |ref k h o=>
  refine both (λu hu=>?_) o;obtain⟨e,he,hl,hv⟩:=z _ _ _ k;simp only[VRel]at hu⊢;obtain⟨a,rfl,g1,g2,g3⟩:=hu;refine⟨a,rfl,PH k,by grind[Eb],λ_=>?_⟩;have f:=hi.ent _ _ he
  cases e with
  |live S E l'=>
   obtain⟨a1,_⟩:=f;have:=g3 o4;simpa [Eb,k] using this
  |mp es=>
   obtain⟨a1,_⟩:=f;have:=g3 U;simpa [Eb,k] using this
  |gone=>grind[Ent.isLive]
 |view k h o=>
  refine both (λu hu=>?_) o;obtain⟨e,he,hl,hv⟩:=z _ _ _ k;simp only[VRel]at hu⊢;obtain⟨a,c,rfl,N,g1,g2,g3⟩:=hu;refine⟨a,c,rfl,N,PH k,by grind[Eb],λ_=>?_⟩;have f:=hi.ent _ _ he
  cases e with
  |live S E l'=>
   obtain⟨a1,_⟩:=f;have:=g3 o4;simpa [Eb,k] using this
  |mp es=>
   obtain⟨a1,_⟩:=f;have:=g3 U;simpa [Eb,k] using this
  |gone=>grind[Ent.isLive]
 |mp k h o=>
  refine both (λu hu=>?_) o;simp only[VRel]at hu⊢;obtain⟨b,rfl,g1,g2⟩:=hu;obtain⟨e,he,hl,hv⟩:=z _ _ _ k;have f:=hi.ent _ _ he;refine⟨b,rfl,PH k,λ_=>?_⟩
  cases e with
  |live S E l'=>
   obtain⟨a1,_⟩:=f;have:=g2 o4
   grind[Eb]
  |mp es=>
   obtain⟨a1,_⟩:=f
   grind[Eb]
  |gone=>grind[Ent.isLive]
 |Lg hm ho ha h q o=>
  refine both (λu hu=>?_) o;obtain⟨a1,a2,a3,a4,a5⟩:=hi.ent _ _ hm;simp only[VRel]at hu⊢;obtain⟨a,n,c,rfl,g1,g2,g3⟩:=hu;obtain⟨rfl,rfl,rfl⟩:=g3 a1;refine⟨_,_,_,rfl,by rw[a3,ha.length],U,?_⟩;rcases a5 with a5|⟨j9,cs,T,s,B,A,H,t⟩
  .have K:=congrArg Nae a5.2;dsimp only at K;exact .inl (Δ (by have:=ha.length;omega))
  .exact .inr ⟨j9,(G.C _).2,l5,YK hi y hm rfl ho s,q.2 j9 _ _ t⟩
 |@fview S j v lo n a b l r hm ho hn ha h q o=>
  refine both (λu hu=>?_) o;obtain⟨a1,a2,a3,a4,a5⟩:=hi.ent _ _ hm;simp only[VRel]at hu⊢;obtain⟨p,c,rfl,j6,L,I,hx⟩:=hu;have F:=ha.length;rw[List.length_take,List.length_drop]at F;refine⟨p,_,c,rfl,U,j6,?_⟩;rcases hx a1 with rfl|⟨b,hb,rfl⟩
  .grind
  .rcases a5 with a5|⟨j9,cs,T,s,B,A,H,t⟩
   .simp_all
   .rw[hb]at s;injection s with s;subst s;refine .inr ⟨_,_,rfl,YK hi y hm rfl ho hb,q.2 _ _ _ ?_⟩
    grind[yA,xA]
 |fref hm ho hx ha h q o=>
  refine both (λu hu=>?_) o;obtain⟨a1,a2,a3,a4,a5⟩:=hi.ent _ _ hm;simp only[VRel]at hu⊢;obtain⟨p,rfl,L,I,P⟩:=hu;obtain⟨b,hb,rfl⟩:=P a1;rcases a5 with a5|⟨j9,cs,T,s,B,A,H,t⟩
  .simp_all
  .rw[hb]at s;injection s with s;subst s;obtain⟨u,Q,k2,k3⟩:=bg.1 t _ _ hx;refine⟨b,_,u,rfl,YK hi y hm rfl ho hb,first q.1 u Q,?_⟩
   grind
 |pt ha h q o=>
  refine both (λu hu=>?_) o;simp only[VRel]at hu⊢;obtain⟨b,off,x,rfl,B,hd,O⟩:=hu;exact⟨b,off,x,rfl,.inl B,first q.1 x hd,O⟩
 |fn ha hc h q ihc o=>
  refine both (λu hu=>?_) o;simp only[VRel]at hu⊢
  grind
 |ifc ha h q o=>
  refine both (λu hu=>?_) o;simp only[VRel]at hu⊢
  grind
theorem Ets.get{ρ:Iv}(h:Ets ρ m os es):os.length=es.length/\∀(i:Nat) e,es[i]?=M e->
 (∃j v u S l l',os[i]?=M (M j,v,u)/\m[j]?=M (.live S v l)/\q! ρ m l l'/\e=.live S u l')\/(∃S u,os[i]?=M (s5,S,u)/\e=.live S u [])\/(∃j l,os[i]?=M (M j,0,0)/\m[j]?=M (.mp l)/\frM l=a38/\e=.mp l):=by
 induction h with
 |nil=>simp
 |live hm hl h a=>
  grind
 |new h a=>
  grind
 |mp hm hf h a=>
  grind
theorem Ets.src{ρ:Iv}(h:Ets ρ m os es):∀(i j:Nat) v,os[i]?=M (M j,v)->∃e:Ent,m[j]?=M e/\e.isLive=a38/\(∀S a l,e=.live S a l->a=v.1):=by
 induction h with
 |nil=>simp
 |live hm hl h b=>
  intro i j v hi
  cases i with
  |zero=>
   simp only[eab,T',H!]at hi;obtain⟨rfl,rfl⟩:=hi;exact⟨_,hm,rfl,λS a l he=>l5⟩
  |succ i=>grind
 |new h b=>
  grind
 |mp hm hf h b=>
  intro i j v hi
  cases i with
  |zero=>
   simp only[eab,T',H!]at hi;obtain⟨rfl,rfl⟩:=hi;exact⟨_,hm,rfl,λS a l he=>nomatch he⟩
  |succ i=>grind
theorem Oe.free{G G':Gh}{w:a42}(a:∀b,G.F b->G'.F b):∀{l:List (a41×D)}{es:List MapEntry},frM l=a38->Oe G w l es->Oe G' w l es
 |[],es,_,h=>h
 |(k,d)::l,es,hf,h=>by
  simp only[frM,θ,E!]at hf;obtain⟨e,r,c,f,h2,g⟩:=h;exact⟨e,r,c,f,VRel.free (G':=G') ⟨λ_ h=>a _ h,λ_ _=>rfl⟩ hf.1 h2,Oe.free a hf.2 g⟩
theorem XR{ρ:Iv}(h:(ρ.filterMap (·.1)).Nodup):∀(i a j:Nat) v b,ρ[i]?=M (M j,v)->ρ[a]?=M (M j,b)->i=a:=by
 induction ρ with
 |nil=>simp
 |cons o os ih=>
  grind
def RD(ρ:Iv):Nat->Bool
 |0=>a38
 |n+1=>RD ρ n&&(match ρ[n]? with|some (M j,v,u)=>j==n&&s6 (v<=u)|_=>a39)
theorem tK{ρ:Iv}:∀{n:Nat},RD ρ n=a38->∀i,i<n->∃v u,v<=u/\ρ[i]?=M (M i,v,u)
 |0,_,i,hi=>absurd hi (Qad i)
 |n+1,h,i,hi=>by
  simp only[RD,E!]at h;rcases Nat.lt_or_ge i n with a|a
  .exact tK h.1 i a
  grind
theorem TH{N:Nat}{ρ:Iv}{s:St}(hk:RD ρ N=a38) (h:aS4 ρ s S) {a:Act}(hr:o? G w a s):o? (Eb G s.m ρ) w a S/\y? N G w s.m (Eb G s.m ρ) w S.m:=by
 have hi:=hr.inv;have p:=h.m.src;have d:=h.m.get;have hrow:∀{l r:List D},q! ρ s.m l r->∀b S off,Xa G w b S l off->Xa (Eb G s.m ρ) w b S r off:=λL=>(L.rel hi p).2;have q:∀b,Mg (Eb G s.m ρ) S.m b->Mg G s.m b:=by
  rintro b ⟨i,e,he,hl,hB⟩;rcases d.2 i e he with⟨j,v,u,S',l,l',c,h2,f,rfl⟩|⟨S',u,c,rfl⟩|⟨j,l,c,h2,f,rfl⟩
  .exact⟨j,_,h2,rfl,by grind[Eb]⟩
  .grind[Eb]
  .exact⟨j,_,h2,rfl,by grind[Eb]⟩
 refine⟨⟨(h.t.rel hi p).1 _ hr.t,⟨d.1,?_,?_,?_,hi.gl.bare λ_ h=>.inl h⟩,hr.defers⟩,⟨λ_ hb=>.inl hb,λ_ _=>rfl,?_,?_,rfl,rfl,rfl,x? _,λ_ _ _=>rfl,?_,λb _ hb=>q b hb⟩⟩
 .rintro b (hb|hb)
  .exact hi.F b hb
  .exact(Mg.lt hi hb.1).1
 .intro i e he;rcases d.2 i e he with⟨j,v,u,S',l,l',c,h2,f,rfl⟩|⟨S',u,c,rfl⟩|⟨j,l,c,h2,f,rfl⟩
  rotate_left 2
  .obtain⟨a1,z,I,H,o,K,g,x⟩:=hi.ent _ _ h2;refine⟨by grind[Eb],z,I,H,by grind[Eb],?_,g,Oe.free (G':=Eb G s.m ρ) (λ_ h=>Or.inl h) f x⟩;rintro(hb|⟨_,hb⟩)
   all_goals grind
  .obtain⟨a1,a2,a3,a4,a5⟩:=hi.ent _ _ h2;have hlen:=f.length;refine⟨by grind[Eb],by grind[Eb],by grind[Eb],by grind[Eb],?_⟩;rcases a5 with a5|⟨z,cs,T,o,K,g,hsz,x⟩
   .grind[Eb]
   .refine .inr ⟨z,cs,T,by grind[Eb],?_,g,by grind[Eb],by grind[Eb]⟩;rintro(hb|⟨_,hb⟩)
    all_goals grind
  .exact⟨by grind[Eb],by grind[Eb],by grind[Eb],o0,.inl (by grind[Eb])⟩
 .intro i j6 e e' he A hl hl' b hb o;have src:∀(i:Nat) e,S.m[i]?=M e->(Eb G s.m ρ).B i=M b->∃j v e0,ρ[i]?=M (M j,v)/\s.m[j]?=M e0/\e0.isLive=a38/\G.B j=M b:=by
   intro i e he hb;rcases d.2 i e he with⟨j,v,u,S1,l,l',c,h2,f,rfl⟩|⟨S1,u,c,rfl⟩|⟨j,l,c,h2,f,rfl⟩
   .exact⟨j,_,_,c,h2,rfl,by grind[Eb]⟩
   .grind[Eb]
   .exact⟨j,_,_,c,h2,rfl,by grind[Eb]⟩
  obtain⟨j,v,e0,c,h2,f,y⟩:=src i e he hb;obtain⟨E,O,e0',g1,g2,g3,g4⟩:=src j6 e' A o;have hj:j=E:=hi.apart j E _ _ h2 g2 f g3 b y g4;subst hj;exact XR h.one _ _ _ _ _ c g1
 .cases N with
  |zero=>omega
  |succ n=>
   obtain⟨v,u,-,hv⟩:=tK hk n (mae n);exact PH hv
 .intro i C;obtain⟨v,u0,hvu,hv⟩:=tK hk i C;obtain⟨e,he,hl,hver⟩:=p _ _ _ hv;have hent:=hi.ent _ _ he;have hV:G.V i=v:=by
   rcases d.2 i _ (n! o4)with⟨j,O,u,S',l,l',c,h2,f,y⟩|⟨S',u,c,y⟩|⟨j,l,c,h2,f,y⟩
   .rw[hv]at c;injection c with c;injection c with k c;injection k with k;injection c with c j9;subst k;subst c;exact(hi.ent _ _ h2).1
   .simp_all
   .rw[hv]at c;injection c with c;injection c with k c;injection k with k;injection c with c j9;subst k;subst c;exact(hi.ent _ _ h2).1
  grind[Eb]
 .rintro b _ (hb|⟨hb,_⟩)
  all_goals simp_all
theorem T.tell{N:Nat}(ρ:Iv) {c:C}{K:Exit->St->Prop}{s:St}(hk:RD ρ N=a38) (h:aS4 ρ s S) (b:Tm.T P N c K S):Tm.T P N c K s:=
 T.ghost (λG w a _ hr=>⟨_,(TH hk h hr).1,(TH hk h hr).2⟩) b
variable {P:a44} {N:Nat}
inductive Ex (σ β ρ:Type) where
 |go (s:σ)
 |brk (b:β)
 |ret (v:ρ)
variable {β σ:Type}{ρ:Iv}
section
variable {σ β ρ:Type}
def Tw(step:σ->Option (Ex σ β ρ)):Nat->σ->Option (β⊕ρ)
 |0,_=>s5
 |n+1,s=>
  match step s with
  |none=>s5
  |some (.go s')=>Tw step n s'
  |some (.brk b)=>M (.inl b)
  |some (.ret v)=>M (.inr v)
theorem AH{step:σ->Option (Ex σ β ρ)}:∀{n:Nat}{s:σ}{r},Tw step n s=M r->∀k,Tw step (n+k) s=M r
 |0,s,r,h,k=>by grind[Tw]
 |n+1,s,r,h,k=>by
  rw[show n+1+k=(n+k)+1 by omega];simp only[Tw]at h⊢;split
  .simp_all
  .rename_i a;rw[a]at h;exact AH h k
  all_goals simp_all
open Classical in
noncomputable def ca(step:σ->Option (Ex σ β ρ)) (s:σ):Option (β⊕ρ):=
 if h:∃n r,Tw step n s=M r then M h.choose_spec.choose else s5
theorem CO{step:σ->Option (Ex σ β ρ)}{s:σ}{n:Nat}{r}(h:Tw step n s=M r):ca step s=M r:=by
 have a:∃n r,Tw step n s=M r:=⟨n,r,h⟩;unfold ca;rw[dif_pos a];have h1:=AH a.choose_spec.choose_spec n
 grind[AH]
theorem PR{step:σ->Option (Ex σ β ρ)}{s:σ}{r}:ca step s=M r↔∃n,Tw step n s=M r:=by
 grind[ca,CO]
theorem Ke{step:σ->Option (Ex σ β ρ)}{s s':σ}(h:step s=M (.go s')):ca step s=ca step s':=by
 apply Option.ext;intro r;simp only[PR];constructor
 .rintro⟨n,hn⟩
  cases n with
  |zero=>grind[Tw]
  |succ n=>grind[Tw]
 .rintro⟨n,hn⟩;exact⟨n+1,by grind[Tw]⟩
theorem Qb{step:σ->Option (Ex σ β ρ)}{s:σ}{b:β}(h:step s=M (.brk b)):ca step s=M (.inl b):=CO (n:=1) (by grind[Tw])
theorem Ct{step:σ->Option (Ex σ β ρ)}{s:σ}{v:ρ}(h:step s=M (.ret v)):ca step s=M (.inr v):=CO (n:=1) (by grind[Tw])
end
inductive f' (N:Nat):St->St->Prop
 |refl (s:St):f' N s s
 |step {s s' S:St} (ρ:Iv) (hk:RD ρ N=a38) (h:aS4 ρ s s') (t:f' N s' S):f' N s S
theorem f'.one{s:St}(ρ:Iv) (hk:RD ρ N=a38) (h:aS4 ρ s S):f' N s S:=.step ρ hk h (.refl S)
theorem f'.trans{a b c:St}(h:f' N a b) (k:f' N b c):f' N a c:=by
 induction h with
 |refl=>exact k
 |step ρ hk h t d=>exact .step ρ hk h (d k)
theorem T.UP{c:C}{K:Exit->St->Prop}{s:St}(h:f' N s S) (hT:Tm.T P N c K S):Tm.T P N c K s:=by
 induction h with
 |refl=>omega
 |step ρ hk h t ih=>grind[T.tell]
def Stb(N:Nat) (K:Exit->St->Prop):Prop:=∀s S,f' N s S->K .normal S->K .normal s
def bv9{b:C}{K:Exit->St->Prop}:Stb N (KS P N b K):=λs S h k=>T.UP h k
def bw3{K:Exit->St->Prop}(h:Stb N K):Stb N (KB id K):=h
def KL{σ β ρ:Type}(N id:Nat) (K:Exit->St->Prop) (S:σ->St) (B:β->St) (z:Ex σ β ρ) (e:Exit) (s':St):Prop:=
 match e with
 |.normal=>match z with|.go x=>f' N s' (S x)|_=>False
 |.exit j=>if j=id then(match z with|.brk b=>f' N s' (B b)|_=>False)else K (.exit j) s'
 |e=>K e s'
section
variable {σ β ρ:Type} {id:Nat} {K:Exit->St->Prop} {S:σ->St} {B:β->St} {s':St}
theorem ba0{x:σ}:KL N id K S B (.go x:Ex σ β ρ) .normal s'=f' N s' (S x):=d?
def bu1{b:β}:KL N id K S B (.brk b:Ex σ β ρ) (.exit j) s'=if j=id then f' N s' (B b)else K (.exit j) s':=d?
def bt9{z:Ex σ β ρ}:KL N id K S B z .ret s'=K .ret s':=d?
def bu0{v:ρ}:KL N id K S B (.ret v:Ex σ β ρ) (.exit j) s'=if j=id then False else K (.exit j) s':=d?
theorem bw0{z:Ex σ β ρ}:Stb N (KL N id K S B z):=by
 intro s S' h k
 cases z with
 |go x=>exact h.trans k
 |_=>exact k.elim
theorem T.ca{x:C}{s:St}(S:σ->St) (B:β->St) (step:σ->Option (Ex σ β ρ)) (x0:σ) {y:β⊕ρ}(g:Tm.ca step x0=M y) (l:f' N s (S x0)) (f:Stb N K)
 (round:∀a z,step a=M z->(∀v,z=.ret v->y=.inr v)->Tm.T P N x (KL N id K S B z) (S a))
 (rest:∀b,y=.inl b->K .normal (B b)):Tm.T P N (.block id (.loop x)) K s:=by
 obtain⟨n,hn⟩:=PR.1 g;clear g;refine T.block (T.loopI (X:=Nat×σ) (λp s=>f' N s (S p.2)/\Tw step p.1 p.2=M y) (λp=>p.1) (n,x0) ⟨l,hn⟩ ?_);rintro⟨n,k⟩ s1 ⟨d,c⟩;refine T.UP d ?_
 cases n with
 |zero=>grind[Tw]
 |succ n=>
  cases i:step k with
  |none=>grind[Tw]
  |some z=>
   simp only[Tw,i]at c;refine(round k z i (λv hv=>l5)).mono ?_;intro e s' h
   cases e with
   |normal=>
    cases z with
    |go m=>exact⟨(n,m),⟨by grind[ba0],c⟩,mae n⟩
    |_=>exact(h:False).elim
   |exit j=>
    simp only[KL]at h⊢;split
    .rename_i hj;rw[J hj]at h
     cases z with
     |brk b=>exact f _ _ h (rest b (J' c).symm)
     |_=>simp_all
    simp_all
   |ret=>exact h
   |_=>exact h
end
def KJ{X R:Type}(N:Nat) (K:Exit->St->Prop) (S:X->St) (z:X⊕R) (e:Exit) (s':St):Prop:=
 match e with
 |.normal=>match z with|.inl x=>f' N s' (S x)|.inr _=>False
 |e=>K e s'
section
variable {X R:Type} {K:Exit->St->Prop} {S:X->St} {s':St}
theorem fR{x:X}:KJ N K S (.inl x:X⊕R) .normal s'=f' N s' (S x):=d?
def aT4{z:X⊕R}:KJ N K S z (.exit j) s'=K (.exit j) s':=d?
def bu2{z:X⊕R}:KJ N K S z .ret s'=K .ret s':=d?
theorem bw1{z:X⊕R}:Stb N (KJ N K S z):=by
 intro s S' h k
 cases z with
 |inl x=>exact h.trans k
 |inr _=>exact k.elim
theorem T.join{a b:C}{s:St}(S:X->St) (z:X⊕R) (ha:Tm.T P N a (KJ N K S z) s) (hb:∀x,z=.inl x->Tm.T P N b K (S x)):Tm.T P N (.seq a b) K s:=by
 refine T.seq (ha.mono ?_);intro e s' h
 cases e with
 |normal=>
  cases z with
  |inl x=>exact T.UP (by grind[fR]) (hb x rfl)
  |inr _=>exact(h:False).elim
 |_=>exact h
end
variable {P:a44}
def e?(P:a44) (k:Nat) (ds:List D) (o:D):Prop:=∀m,CallT P k ds m λd m'=>d=o/\m'=m
theorem HP{l:List D}(h:q! [] m l r):oa r=a38:=by
 induction h<;>simp_all[oa,xa]
theorem q!.v{ρ:Iv}{m:List Ent}{x:a41}{l r:List D}(h:q! ρ m l r):q! ρ m (.v x::l) (.v x::r):=.same rfl h
theorem q!.free{ρ:Iv}{m:List Ent}:∀{l:List D},oa l=a38->q! ρ m l l
 |[],_=>.nil
 |d::l,h=>by simp only[oa,E!]at h;exact .same h.1 (q!.free h.2)
theorem q!.app{a b c d:List D}(f:q! ρ m a b) (h2:q! ρ m c d):q! ρ m (a++c) (b++d):=by
 induction f with
 |nil=>exact h2
 |same hf h e=>exact .same hf e
 |dead h e=>exact .dead e
 |nils h e=>exact .nils e
 |wE i hi h e=>exact .wE i hi e
 |agg ha h _ e=>exact .agg ha e
 |tup ha h _ e=>exact .tup ha e
 |sl ha h _ e=>exact .sl ha e
 |own hi h e=>exact .own hi e
 |ref hi h e=>exact .ref hi e
 |view hi h e=>exact .view hi e
 |mp hi h e=>exact .mp hi e
 |Lg hm ho ha h _ e=>exact .Lg hm ho ha e
 |fview hm ho hn ha h _ e=>exact .fview hm ho hn ha e
 |fref hm ho hx ha h _ e=>exact .fref hm ho hx ha e
 |pt ha h _ e=>exact .pt ha e
 |fn ha hc h _ _ e=>exact .fn ha hc e
 |ifc ha h _ e=>exact .ifc ha e
class Fr {α:Type} (e:α->D):Prop where
 h:∀x,xa (e x)=a38
variable {e:a43}
theorem JI{α:Type}{e:α->D}(h:∀x,xa (e x)=a38):∀l:List α,oa (l.map e)=a38
 |[]=>rfl
 |x::l=>by simp[oa,h x,JI h l]
theorem Fr.l{α:Type}{e:α->D} [Fr e] (l:List α):oa (l.map e)=a38:=JI Fr.h l
def Fr.s{α:Type}{e:α->D} [Fr e] (S:Nat) (l:List α):xa (.sl S (l.map e))=a38:=Fr.l (e:=e) l
theorem Ox{N:Nat}{s:St}(h:f' N s S):∀{G:Gh}{w:a42}{a:Act},N<=G.n->o? G w a s->∃G',o? G' w a S/\y? N G w s.m G' w S.m:=by
 induction h with
 |refl s=>grind[y?.refl]
 |step ρ hk h t e=>
  intro G w a hN hr;obtain⟨b,h2⟩:=TH hk h hr;obtain⟨G',c,d⟩:=e h2.n b;exact⟨G',c,h2.trans d⟩
def cC(rs:List RV) (o:D) (e:Exit) (s:St):Prop:=
 match e with
 |.normal=>∃S,f' 0 s S/\∃ds,Tb S rs=M ds/\q! [] S.m [Vt ds] [o]
 |.ret=>∃S,f' 0 s S/\∃ds,Tb S rs=M ds/\q! [] S.m [Vt ds] [o]
 |_=>False
def JV(r:Option (List D)) (m:List Ent) (o:D):Prop:=∃ds,r=M ds/\q! [] m [Vt ds] [o]
def Fin(m:List Ent) (d o:D):Prop:=q! [] m [d] [o]
theorem qt{ds:List D}{o:D}:JV (M ds) m o=Fin m (Vt ds) o:=by simp[JV,Fin]
@[congr] theorem bo7{r a:Option (List D)} {m:List Ent} {o:D} (h:r=a):JV r m o=JV a m o:=by rw[h]
theorem iv{o:D}{s:St}(h:JV (Tb s rs) s.m o):cC rs o .ret s:=by
 obtain⟨ds,a,h2⟩:=h;exact⟨s,.refl s,ds,a,h2⟩
theorem bw2{o:D}:Stb 0 (cC rs o):=by
 rintro s S h ⟨S',a,h2⟩;exact⟨S',h.trans a,h2⟩
theorem CN{f:a47}{ds:List D}{o:D}(hf:oa ds=a38) (h:CallT P f ds [] λd m'=>q! [] m' [d] [o]):e? P f ds o:=by
 refine λm=>⟨h.1,λG w vs hv hi=>?_⟩;have l:=h.2 (Gh.bare G.F) w vs (VsRel.free (G:=G) (G':=Gh.bare G.F) ⟨λ_ h=>h,λ_ _=>rfl⟩ hf hv) (NI hi.F (hi.gl.bare λ_ h=>h));refine l.mono ?_;rintro e w' ⟨v,d,m',G',rfl,g,hvd,c,q⟩;obtain⟨-,-,p⟩:=kR hi q c (λ_ h=>h);obtain⟨g1,g2⟩:=p λ_ h=>h;refine⟨v,o,m,_,rfl,⟨rfl,rfl⟩,?_,g1,g2⟩;have k:=(g.rel c (λi j v h=>o4)).1 [v] (by simp only[VsRel];simp_all);simp only[VsRel]at k;obtain⟨u,us,he,n,_⟩:=k;injection he with he _;subst he;have a:=HP g;simp only[oa,pac]at a;refine VRel.free (G:=Eb G' m' []) (G':={ G with F:=λb=>G'.F b\/Mg G' m' b }) ⟨?_,λ_ _=>rfl⟩ a n;rintro b (hb|⟨hb,_⟩)
 all_goals simp_all
theorem e?.of{ds:List D}{o:D}(g:rC P k=M F) (b:((P.funcs[k]?).map λfn=>fn.name == "runtime.NumGoroutine")=M a39) (hf:oa ds=a38)
 (h:T P 0 F.code (cC F.results o) ⟨ds++k? (F.ntmps-ds.length) d!,[]⟩):e? P k ds o:=by
 refine CN hf (Tn g b ?_);refine T.clo (h.mono ?_);have key:∀(e:Exit) (s:St),(∀s',kH F.results (λd m'=>q! [] m' [d] [o]) e s' = ∃ds,Tb s' F.results=M ds/\q! [] s'.m [Vt ds] [o])->(∃S,f' 0 s S/\∃ds,Tb S F.results=M ds/\q! [] S.m [Vt ds] [o])->HU 0 (kH F.results λd m'=>q! [] m' [d] [o]) e s:=by
  intro e s he ⟨S,f,h2⟩ G w a hN hr;obtain⟨G',h3,h4⟩:=Ox f hN hr
  grind
 intro e s c
 cases e with
 |normal=>exact key _ s (λ_=>rfl) c
 |ret=>exact key _ s (λ_=>rfl) c
 |_=>exact(c:False).elim
theorem rH{ds:List D}{o:D}(h:e? P k ds' o) (q:q! [] m ds ds') (a:flat o=a38) (hf:f o m):kg P k ds m f:=by
 refine Lc (m1:=m) (d1:=o) ⟨(h []).1,λG w vs hv hi=>?_⟩ hf;have n:=(q.rel hi (λi j v h=>o4)).1 vs hv;have l:VsRel (Gh.bare (Eb G m []).F) w ds' vs:=VsRel.free (G:=Eb G m []) ⟨λ_ h=>h,λ_ _=>rfl⟩ (HP q) n;have r:=(h []).2 _ w vs l (NI (λb hb=>by
  rcases hb with hb|⟨hb,_⟩
  .exact hi.F b hb
  .exact(Mg.lt hi hb).1) (hi.gl.bare λ_ h=>.inl h))
 refine r.mono ?_;rintro e w' ⟨v,d,m',G',rfl,⟨rfl,-⟩,p,c,g⟩;obtain⟨-,h2,-⟩:=kR hi g c (λ_ h=>.inl h);exact⟨v,d,m,G,rfl,⟨rfl,rfl⟩,p.flat a,h2.1,h2.2⟩
def c!{α:Type}(l:List α) (i:Int):Option α:=if 0<=i then l[i.toNat]? else s5
def app{α:Type}(b:Nat) (l r:List α):Option (List α):=if(l.length+r.length)*b<=2 ^ 47 then M (l++r)else s5
def put{α:Type}(l:List α) (i:Int) (x:α):Option (List α):=if 0<=i/\i.toNat<l.length then M (l.set i.toNat x)else s5
def kD{α:Type}(b:Nat) (x:α) (n c:Int):Option (List α):=if 0<=n/\n<=c/\c<=2 ^ 62/\c.toNat*b<=2 ^ 48 then M (k? n.toNat x)else s5
def quo(k:a48) (a b:Int):Option Int:=if b=0 then s5 else M (aa k (a.tdiv b))
def rem(k:a48) (a b:Int):Option Int:=if b=0 then s5 else M (a.tmod b)
theorem xy{α:Type}{l:List α}{i:Int}{x:α}(h:c! l i=M x):0<=i/\l[i.toNat]?=M x:=by
 grind[c!]
theorem TU{α:Type}{b:Nat}{l r x:List α}(h:app b l r=M x):(l.length+r.length)*b<=140737488355328/\x=l++r:=by
 grind[app]
theorem aj1{α:Type}{l x:List α}{i:Int}{y:α}(h:put l i y=M x):0<=i/\i.toNat<l.length/\x=l.set i.toNat y:=by
 grind[put]
theorem al6{α:Type}{b:Nat}{x:α}{n c:Int}{l:List α}(h:kD b x n c=M l):0<=n/\n<=c/\c<=4611686018427387904/\c.toNat*b<=281474976710656/\l=k? n.toNat x:=by
 grind[kD]
theorem Zp{α:Type}{o:Option α}{f:α->Option β}{r:β}(h:o.bind f=M r):∃x,o=M x/\f x=M r:=hac.1 h
variable {P:a44} {N:Nat}
def lH(f:D->D->Prop):List D->List D->Prop
 |[],[]=>True
 |d::l,e::r=>f d e/\lH f l r
 |_,_=>False
def eE(f:D->D->Prop) (a b:List D):Prop:=(a=b/\oa a=a38)\/lH f a b
def Sq(ρ:Iv) (m:List Ent):Nat->D->D->Prop
 |0,_,_=>False
 |n+1,d,e=>
  match e with
  |d!=>True
  |.v y=>match d with|.v x=>x=y|_=>False
  |.agg b=>match d with|.agg a=>eE (Sq ρ m n) a b|_=>False
  |.tup b=>match d with|.tup a=>eE (Sq ρ m n) a b|_=>False
  |.sl S b=>
   match d with
   |.v x=>x=.slice s5 0 0/\b=[]
   |.sl S' a=>S'=S/\eE (Sq ρ m n) a b
   |.own j v=>
    match m[j]? with
    |some (.live S' g a)=>S'=S/\g=v/\Gx ρ j=a38/\eE (Sq ρ m n) a b
    |_=>False
   |.view j v lo k=>
    match m[j]? with
    |some (.live S' g a)=>S'=S/\g=v/\Gx ρ j=a38/\lo+k<=a.length/\eE (Sq ρ m n) ((a.drop lo).take k) b
    |_=>False
   |_=>False
  |.own i u=>
   match d with
   |.own j v=>ρ[i]?=M (M j,v,u)
   |.v x=>x=.slice s5 0 0/\∃S,ρ[i]?=M (s5,S,u)
   |_=>False
  |.ref i u x s=>match d with|.ref j v p s'=>ρ[i]?=M (M j,v,u)/\p=x/\s'=s|_=>False
  |.view i u lo k=>match d with|.view j v h o=>ρ[i]?=M (M j,v,u)/\h=lo/\o=k|_=>False
  |.pt e'=>
   match d with
   |.pt d'=>(d'=e'/\xa d'=a38)\/Sq ρ m n d' e'
   |.ref j v x s=>
    match m[j]? with
    |some (.live _ g a)=>g=v/\s=0/\Gx ρ j=a38/\(match a[x]? with|some d'=>(d'=e'/\xa d'=a38)\/Sq ρ m n d' e'|none=>False)
    |_=>False
   |_=>False
  |.fn f b d'=>match d with|.fn l a c=>l=f/\eE (Sq ρ m n) a b/\eE (Sq ρ m n) c d'|_=>False
  |.mp i=>match d with|.mp j=>ρ[i]?=M (M j,0,0)|_=>False
  |.ifc t e'=>match d with|.ifc t' d'=>t'=t/\((d'=e'/\xa d'=a38)\/Sq ρ m n d' e')|_=>False
theorem AB{ρ:Iv}{m:List Ent}{f:D->D->Prop}(hf:∀d e l r,f d e->q! ρ m l r->q! ρ m (d::l) (e::r)):∀{a b:List D},lH f a b->q! ρ m a b
 |[],[],_=>.nil
 |d::l,e::r,h=>hf d e l r h.1 (AB hf h.2)
 |[],_::_,h=>h.elim
 |_::_,[],h=>h.elim
theorem BB{f:D->D->Prop}(hf:∀d e l r,f d e->q! ρ m l r->q! ρ m (d::l) (e::r)) {a b:List D}(h:eE f a b):q! ρ m a b:=by
 rcases h with⟨rfl,h⟩|h
 all_goals grind[q!.free,AB]
theorem EA{ρ:Iv}{m:List Ent}:∀(n:Nat) (d e:D) (l r:List D),Sq ρ m n d e->q! ρ m l r->q! ρ m (d::l) (e::r)
 |0,d,e,l,r,h,_=>h.elim
 |n+1,d,e,l,r,h,c=>by
  have g:=EA (ρ:=ρ) (m:=m) n;have one:∀d' e',((d'=e'/\xa d'=a38)\/Sq ρ m n d' e')->q! ρ m [d'] [e']:=by
   rintro d' e' (⟨rfl,h⟩|h)
   .exact .same h .nil
   .exact g _ _ _ _ h .nil
  cases e with
  |dead=>exact .dead c
  |v y=>cases d<;>simp only[Sq]at h;subst h;exact .v c
  |agg b=>cases d<;>simp only[Sq]at h;exact .agg (BB g h) c
  |tup b=>cases d<;>simp only[Sq]at h;exact .tup (BB g h) c
  |sl S b=>
   cases d with
   |v x=>simp only[Sq]at h;obtain⟨rfl,rfl⟩:=h;exact .nils c
   |sl S' a=>simp only[Sq]at h;obtain⟨rfl,h⟩:=h;exact .sl (BB g h) c
   |own j v=>
    simp only[Sq]at h;split at h
    .rename_i S' o a hm;obtain⟨rfl,rfl,ho,h⟩:=h;exact .Lg hm ho (BB g h) c
    simp_all
   |view j v lo k=>
    simp only[Sq]at h;split at h
    .rename_i S' o a hm;obtain⟨rfl,rfl,ho,hl,h⟩:=h;exact .fview hm ho hl (BB g h) c
    simp_all
   |_=>simp only[Sq]at h
  |own i u=>
   cases d with
   |own j v=>simp only[Sq]at h;exact .own h c
   |v x=>simp only[Sq]at h;obtain⟨rfl,S,h⟩:=h;exact .wE i h c
   |_=>simp only[Sq]at h
  |ref i u x s=>cases d<;>simp only[Sq]at h;obtain⟨h,rfl,rfl⟩:=h;exact .ref h c
  |view i u lo k=>cases d<;>simp only[Sq]at h;obtain⟨h,rfl,rfl⟩:=h;exact .view h c
  |pt e'=>
   cases d with
   |pt d'=>simp only[Sq]at h;exact .pt (one _ _ h) c
   |ref j v x s=>
    simp only[Sq]at h;split at h
    .rename_i S' o a hm;obtain⟨rfl,rfl,ho,h⟩:=h;split at h
     .rename_i d' hd;exact .fref hm ho hd (one _ _ h) c
     simp_all
    simp_all
   |_=>simp only[Sq]at h
  |fn f b d'=>cases d<;>simp only[Sq]at h;obtain⟨rfl,p,h2⟩:=h;exact .fn (BB g p) (BB g h2) c
  |mp i=>cases d<;>simp only[Sq]at h;exact .mp h c
  |ifc t e'=>cases d<;>simp only[Sq]at h;obtain⟨rfl,h⟩:=h;exact .ifc (one _ _ h) c
def RJ(ρ:Iv) (m:List Ent):Iv->List Ent->Prop
 |[],[]=>True
 |(M j,v,u)::os,.live S c b::es=>u=c/\(match m[j]? with|some (.live S' d a)=>S'=S/\d=v/\eE (Sq ρ m 9) a b|_=>False)/\RJ ρ m os es
 |(s5,S,u)::os,.live S' c b::es=>S=S'/\u=c/\b=[]/\RJ ρ m os es
 |(M j,v,u)::os,.mp b::es=>v=0/\u=0/\(match m[j]? with|some (.mp a)=>a=b/\frM b=a38|_=>False)/\RJ ρ m os es
 |_,_=>False
theorem MM{ρ:Iv}{m:List Ent}:∀{os:Iv}{es:List Ent},RJ ρ m os es->Ets ρ m os es
 |[],[],_=>.nil
 |(M j,v,u)::os,.live S d b::es,h=>by
  simp only[RJ]at h;obtain⟨rfl,c,h2⟩:=h;split at c
  .rename_i S' v' a hm;obtain⟨rfl,rfl,c⟩:=c;exact .live hm (BB (EA 9) c) (MM h2)
  simp_all
 |(s5,S,u)::os,.live S' d b::es,h=>by
  simp only[RJ]at h;obtain⟨rfl,rfl,rfl,h2⟩:=h;exact .new (MM h2)
 |[],_::_,h=>by simp[RJ]at h
 |_::_,[],h=>by simp[RJ]at h
 |(M j,v,u)::os,.mp b::es,h=>by
  simp only[RJ]at h;obtain⟨rfl,rfl,c,h2⟩:=h;split at c
  .rename_i a hm;obtain⟨rfl,c⟩:=c;exact .mp hm c (MM h2)
  simp_all
 |(M j,v,u)::os,.gone::es,h=>by simp[RJ]at h
 |(s5,S,u)::os,.mp _::es,h=>by simp[RJ]at h
 |(s5,S,u)::os,.gone::es,h=>by simp[RJ]at h
def f'.q(ρ:Iv) {s:St}(hk:RD ρ N=a38) (a:(ρ.filterMap (·.1)).Nodup) (h:lH (Sq ρ s.m 9) s.t S.t/\RJ ρ s.m ρ S.m):f' N s S:=
 .one ρ hk ⟨AB (EA 9) h.1,MM h.2,a⟩
section
variable {ρ:Iv} {m:List Ent} {n:Nat} {d e:D} {a b c l r:List D} {x y:a41} {S S' i j u v k lo q s:Nat}
def aB7{f:D->D->Prop}:lH f [] []=True:=d?
def ae2{f:D->D->Prop}:lH f (d::l) (e::r)=(f d e/\lH f l r):=d?
theorem Jj{f:D->D->Prop}(h:oa a=a38):eE f a a=True:=by simp[eE,h]
theorem bw8{f:D->D->Prop}:eE f (d::l) (e::r)=(((d::l=e::r)/\oa (d::l)=a38)\/(f d e/\lH f l r)):=d?
theorem aB5{f:D->D->Prop}:eE f [] []=True:=by simp[eE,oa]
theorem aB4:Sq ρ m (n+1) d d!=True:=d?
def ct5:Sq ρ m (n+1) (.v x) (.v y)=(x=y):=d?
def bc6:Sq ρ m (n+1) (.agg a) (.agg b)=eE (Sq ρ m n) a b:=d?
def bc3:Sq ρ m (n+1) (.tup a) (.tup b)=eE (Sq ρ m n) a b:=d?
def aB0:Sq ρ m (n+1) (.v x) (.sl S b)=(x=.slice s5 0 0/\b=[]):=d?
def bw4:Sq ρ m (n+1) (.sl S' a) (.sl S b)=(S'=S/\eE (Sq ρ m n) a b):=d?
def aB1:Sq ρ m (n+1) (.own j v) (.sl S b)=(match m[j]? with|some (.live S' c a)=>S'=S/\c=v/\Gx ρ j=a38/\eE (Sq ρ m n) a b|_=>False):=d?
def ae0:Sq ρ m (n+1) (.view j v lo k) (.sl S b)=(match m[j]? with|some (.live S' c a)=>S'=S/\c=v/\Gx ρ j=a38/\lo+k<=a.length/\eE (Sq ρ m n) ((a.drop lo).take k) b|_=>False):=d?
def bc5:Sq ρ m (n+1) (.own j v) (.own i u)=(ρ[i]?=M (M j,v,u)):=d?
def ae1:Sq ρ m (n+1) (.v x) (.own i u)=(x=.slice s5 0 0/\∃S,ρ[i]?=M (s5,S,u)):=d?
def bc4:Sq ρ m (n+1) (.ref j v q s) (.ref i u k lo)=(ρ[i]?=M (M j,v,u)/\q=k/\s=lo):=d?
def aA9{a b:Nat}:Sq ρ m (n+1) (.view j v a b) (.view i u lo k)=(ρ[i]?=M (M j,v,u)/\a=lo/\b=k):=d?
def bw5:Sq ρ m (n+1) (.pt d) (.pt e)=((d=e/\xa d=a38)\/Sq ρ m n d e):=d?
def aB2:Sq ρ m (n+1) (.ref j v q s) (.pt e)=(match m[j]? with
 |some (.live _ b a)=>b=v/\s=0/\Gx ρ j=a38/\(match a[q]? with|some d'=>(d'=e/\xa d'=a38)\/Sq ρ m n d' e|none=>False)
 |_=>False):=d?
def bw7{f d:a47}{d':List D}:Sq ρ m (n+1) (.fn d a c) (.fn f b d')=(d=f/\eE (Sq ρ m n) a b/\eE (Sq ρ m n) c d'):=d?
def bo3:RJ ρ m [] []=True:=d?
theorem aN6{c:Nat}:RJ ρ m ((M j,v,u)::os) (.live S c b::es)=(u=c/\(match m[j]? with|some (.live S' d a)=>S'=S/\d=v/\eE (Sq ρ m 9) a b|_=>False)/\RJ ρ m os es):=by simp only[RJ]
theorem bo4{a:Nat}:RJ ρ m ((s5,S,u)::os) (.live S' a b::es)=(S=S'/\u=a/\b=[]/\RJ ρ m os es):=by simp only[RJ]
theorem bw6:Sq ρ m (n+1) (.mp j) (.mp i)=(ρ[i]?=M (M j,0,0)):=d?
theorem cm1{b:List (a41×D)}:RJ ρ m ((M j,v,u)::os) (.mp b::es)=(v=0/\u=0/\(match m[j]? with|some (.mp a)=>a=b/\frM b=a38|_=>False)/\RJ ρ m os es):=by simp only[RJ]
theorem aN1:frM []=a38:=d?
def aj9:Gx [] j=a38:=d?
def r9{o:Option Nat×Nat×Nat}:Gx (o::ρ) j=((match o.1 with|some k=>k !=j|none=>a38)&&Gx ρ j):=d?
end
def yL{d o:D}(h:Sq [] m 9 d o):Fin m d o:=EA 9 d o [] [] h .nil
theorem vJ{l:List D}(h:q! [] [] l r):(∀us,VsRel G w l us->VsRel G w r us)/\(∀b S off,Xa G w b S l off->Xa G w b S r off):=by
 have both:∀{d e:D} {l r:List D},(∀u,VRel G w d u->VRel G w e u)->
  ((∀us,VsRel G w l us->VsRel G w r us)/\(∀b S off,Xa G w b S l off->Xa G w b S r off))->
  ((∀us,VsRel G w (d::l) us->VsRel G w (e::r) us)/\(∀b S off,Xa G w b S (d::l) off->Xa G w b S (e::r) off)):=by
  intro d e l r h1 h2;refine⟨λus hv=>?_,λb S off hv=>?_⟩
  .simp only[VsRel]at hv⊢
   grind
  .simp only[Xa]at hv⊢
   grind
 have first:∀{d e:D},(∀us,VsRel G w [d] us->VsRel G w [e] us)->∀u,VRel G w d u->VRel G w e u:=by
  intro d e h u hu;have:=h [u] (by simp only[VsRel];simp_all);simp only[VsRel]at this
  simp_all
 induction h with
 |nil=>simp
 |same hf h c=>exact both (λu hu=>hu) c
 |dead h c=>exact both (λu _=>I?) c
 |nils h c=>exact both (λu hu=>by simp only[VRel]at hu⊢;grind) c
 |agg ha h f c=>
  refine both (λu hu=>?_) c;simp only[VRel]at hu⊢
  grind
 |tup ha h f c=>
  refine both (λu hu=>?_) c;simp only[VRel]at hu⊢
  grind
 |sl ha h f c=>
  refine both (λu hu=>?_) c;simp only[VRel]at hu⊢;obtain⟨a,n,cap,rfl,hn,hc,g⟩:=hu;refine⟨a,n,cap,rfl,by rw[←ha.length];omega,hc,?_⟩;rcases g with rfl|⟨b,off,rfl,hF,hr⟩
  .exact .inl (Δ ha.length.symm)
  grind
 |pt ha h f c=>
  refine both (λu hu=>?_) c;simp only[VRel]at hu⊢
  grind
 |fn ha hc h f ihc c=>
  refine both (λu hu=>?_) c;simp only[VRel]at hu⊢
  grind
 |ifc ha h f c=>
  refine both (λu hu=>?_) c;simp only[VRel]at hu⊢
  grind
 |wE i hi=>simp at hi
 |own hi=>simp at hi
 |ref hi=>simp at hi
 |view hi=>simp at hi
 |mp hi=>simp at hi
 |Lg hm=>simp at hm
 |fview hm=>simp at hm
 |fref hm=>simp at hm
def IM{ds:List D}{o:D}(h:e? P k ds' o) (hf:f o m) (a:lH (Sq [] [] 9) ds ds'):kg P k ds m f:=
 Lc (m1:=m) (d1:=o) ⟨(h m).1,λG w vs hv hi=>(h m).2 G w vs ((vJ (AB (EA 9) a)).1 vs hv) hi⟩ hf
def DN{ds:List D}{o:D}(h:e? P k ds' o) (hf:f o m) (a:flat o=a38) (b:lH (Sq [] m 9) ds ds'):kg P k ds m f:=
 rH h (AB (EA 9) b) a hf
section
variable {K:Exit->St->Prop} {s:St} {l:List RI} {a b:C} {c:a43} {t:Bool} {id q:Nat}
def T.rg(h:Vj P l (K .normal) s):Tm.T P N (.eU l) K s:=T.eU (kz h)
theorem T.cd(ht:s.ev c=.v (.bool t)) (h:gP (t=a38) (Tm.T P N a K s) (Tm.T P N b K s)):Tm.T P N (.cond c a b) K s:=
 T.cond ht (λe=>h.1 e) (λe=>h.2 o4)
theorem T.bk(h:Tm.T P N a (KB id K) s):Tm.T P N (.block id a) K s:=T.block (h.mono λe s' b=>by cases e<;>exact b)
def T.sr(h:Vj P l (KS P N b K .normal) s):Tm.T P N (.seq (.eU l) b) K s:=T.Vo (T.rg h)
theorem gP.ite{q N:Prop} [Decidable q] {α:Type}{A B:Option α}{r:α}(h:(if q then A else B)=M r) (a:p↔q) (d:q->A=M r->Y) (h2:¬q->B=M r->N):gP p Y N:=by
 by_cases c:q
 .rw[J c]at h;exact⟨λ_=>d c h,λb=>(b (a.2 c)).elim⟩
 .rw[p6 c]at h;exact⟨λb=>(c (a.1 b)).elim,λ_=>h2 c h⟩
end
def ds:Nat->List D->List D
 |0,l=>l
 |n+1,l=>d!::ds n l
def Ap{l:List D}:ds 0 l=l:=d?
def Jn{n:Nat}{l:List D}:ds (n+1) l=d!::ds n l:=d?
def rpS{α:Type}{a:α}:k? 1 a=[a]/\k? 2 a=[a,a]/\k? 3 a=[a,a,a]/\k? 55 a=[a,a,a,a,a,a,a,a,a,a,a,a,a,a,a,a,a,a,a,a,a,a,a,a,a,a,a,a,a,a,a,a,a,a,a,a,a,a,a,a,a,a,a,a,a,a,a,a,a,a,a,a,a,a,a]:=⟨rfl,rfl,rfl,rfl⟩
variable {P:a44} {N:Nat}
def VI(ok:Bool) (z:D) (m:List Ent) (o:Option D):Option (D×List Ent):=
 match o with
 |some d=>M (if ok then .tup [d,.v (.bool a38)]else d,m)
 |none=>M (if ok then .tup [z,.v (.bool a39)]else z,m)
def TG{β:Type}:List (Int×β)->Int->Option β
 |[],_=>s5
 |(q,x)::l,k=>if k=q then M x else TG l k
def NQ{β:Type}(k:Int) (x:β):List (Int×β)->List (Int×β)
 |[]=>[(k,x)]
 |(q,y)::l=>if k=q then(k,x)::l else(q,y)::NQ k x l
def em{β:Type}(e:β->D) (l:List (Int×β)):List (a41×D):=l.map λp=>(.int .i64 p.1,e p.2)
theorem Z3{β:Type}{e:β->D}{k:Int}:∀{l:List (Int×β)},Wt (.int .i64 k) (em e l)=(TG l k).map e
 |[]=>d?
 |(q,x)::l=>by
  have a:=Z3 (e:=e) (k:=k) (l:=l);simp only[em]at a;simp only[em,D?,Wt,sv,TG,aaA,a];split<;>rfl
theorem XT{β:Type}{e:β->D}{k:Int}{x:β}:∀{l:List (Int×β)},Iy (.int .i64 k) (e x) (em e l)=em e (NQ k x l)
 |[]=>d?
 |(q,y)::l=>by
  have a:=XT (e:=e) (k:=k) (x:=x) (l:=l);simp only[em]at a;simp only[em,D?,Iy,sv,NQ,aaA,a];split<;>rfl
theorem bs8{e:β->D}{l:List (Int×β)}:((em e l).all λq=>u? 0 q.1)=a38:=by
 simp[em,u?]
theorem bo9{e:β->D}:em e []=[]:=d?
theorem bp0{e:β->D}{l:List (Int×β)}:(em e l).length=l.length:=by simp[em]
theorem BT{e:β->D} [Fr e] {l:List (Int×β)}:frM (em e l)=a38:=by
 simp only[frM,em,List.all_map,R'];exact λx _=>Fr.h x.2
def aK8{k:Int}:u? 0 (.int .i64 k)=a38:=d?
def CA(b:ByteArray) (i:Int):Option Int:=if h:0<=i/\i.toNat<b.size then M ((b[i.toNat]'h.2).toNat:Int)else s5
def kA:Nat->List D->Bool
 |0,[]=>a38
 |n+1,_::l=>kA n l
 |_,_=>a39
theorem Cx:∀{n:Nat}{l:List D},kA n l=a38↔l.length=n
 |0,[]=>by simp[kA]
 |n+1,_::l=>by simp[kA,Cx (n:=n) (l:=l)]
 |0,_::_=>by simp[kA]
 |_+1,[]=>by simp[kA]
def XE:Nat->Nat->List D->Bool
 |0,0,_=>a38
 |0,n+1,_::l=>XE 0 n l
 |o+1,n,_::l=>XE o n l
 |_,_,[]=>a39
theorem wy:∀{o n:Nat}{l:List D},XE o n l=a38↔o+n<=l.length
 |0,0,l=>by simp[XE]
 |0,n+1,_::l=>by simp[XE,wy (o:=0) (n:=n) (l:=l)]
 |o+1,n,_::l=>by simp[XE,wy (o:=o) (n:=n) (l:=l)];omega
 |0,n+1,[]=>by simp[XE]
 |o+1,n,[]=>by simp[XE]
theorem bi2:kA 0 []=a38:=d?
def aJ7{n:Nat}{d:D}{l:List D}:kA (n+1) (d::l)=kA n l:=d?
theorem cv5{l:List D}:XE 0 0 l=a38:=by cases l<;>rfl
def cv7{n:Nat}{d:D}{l:List D}:XE 0 (n+1) (d::l)=XE 0 n l:=d?
theorem cv6{o n:Nat}{d:D}{l:List D}:XE (o+1) n (d::l)=XE o n l:=by cases n<;>rfl
theorem cu0:type_of% @fa.eq_1:=by intros;exact I! rfl rfl
theorem be7:type_of% @fa.eq_2:=by intros;exact I! rfl rfl
theorem by6:type_of% @fa.eq_3:=by intros;exact I! rfl rfl
theorem by7:type_of% @fa.eq_4:=by intros;exact I! rfl rfl
theorem ct9:type_of% @fa.eq_5:=by intros;exact I! rfl rfl
theorem bf3:type_of% @fa.eq_6:=by intros;exact I! rfl rfl
theorem aG8:type_of% @fa.eq_7:=by intros;exact I! rfl rfl
theorem by5{s:St}{S:Nat}:fa s (.box S x)=if(s.ev x).ok=a38/\kA S (s.ev x).cells=a38 then M (.ref s.m.length 0 0 0,s.m++[.live S 0 [s.ev x]])else s5:=by simp only[Cx,wy];rfl
theorem aG7:type_of% @fa.eq_9:=by intros;exact I! rfl rfl
theorem ai9:type_of% @fa.eq_10:=by intros;exact I! rfl rfl
theorem bf1{s:St}{A:Bool}{n:Nat}:fa s (.load A n x) =
 match s.ev x with
 |.pt d=>
  match A,d with
  |true,.agg l=>if kA n l=a38 then M (d,s.m)else s5
  |true,_=>s5
  |false,.agg _=>s5
  |false,d=>if d.ok=a38 then M (d,s.m)else s5
 |.ref id Va c! sub=>
  match s.m[id]? with
  |some (.live _ a l)=>if a=Va then(l[c!]?).bind λd=>if d.ok=a38 then(part A n sub d.cells).map λr=>(r,s.m)else s5 else s5
  |_=>s5
 |_=>s5:=by simp only[Cx,wy];rfl
theorem aF6{s:St}{n:Nat}{y:a43}:fa s (.store n x y) =
 match s.ev x with
 |.ref id Va c! sub=>
  match s.m[id]? with
  |some (.live S a l)=>
   if a=Va/\(s.ev y).ok=a38/\kA n (s.ev y).cells=a38 then
    (l[c!]?).bind λd=>if d.ok=a38/\0<n/\XE sub n d.cells=a38 then M (d!,s.m.set id (.live S a (l.set c! (d.vh sub (s.ev y).cells))))else s5
   else s5
  |_=>s5
 |_=>s5:=by simp only[Cx,wy];rfl
theorem be8:type_of% @fa.eq_13:=by intros;exact I! rfl rfl
theorem aF7:type_of% @fa.eq_14:=by intros;exact I! rfl rfl
theorem aG6:type_of% @fa.eq_15:=by intros;exact I! rfl rfl
theorem aG5:type_of% @fa.eq_16:=by intros;exact I! rfl rfl
theorem aG4:type_of% @fa.eq_17:=by intros;exact I! rfl rfl
theorem aG9:type_of% @fa.eq_18:=by intros;exact I! rfl rfl
theorem aG3:type_of% @fa.eq_19:=by intros;exact I! rfl rfl
theorem y9:type_of% @fa.eq_20:=by intros;exact I! rfl rfl
theorem by2:type_of% @fa.eq_21:=by intros;exact I! rfl rfl
theorem be5:type_of% @fa.eq_22:=by intros;exact I! rfl rfl
theorem aj0:type_of% @fa.eq_23:=by intros;exact I! rfl rfl
theorem A9:type_of% @fa.eq_24:=by intros;exact I! rfl rfl
theorem ai8:type_of% @fa.eq_25:=by intros;exact I! rfl rfl
theorem bf2:type_of% @fa.eq_26:=by intros;exact I! rfl rfl
theorem cu1:type_of% @fa.eq_27:=by intros;exact I! rfl rfl
theorem by4:type_of% @fa.eq_28:=by intros;exact I! rfl rfl
theorem be4:type_of% @fa.eq_29:=by intros;exact I! rfl rfl
theorem be6{s:St}{i:a43}:fa s (.CA x i)=(match s.ev x,s.ev i with
 |.v (.string b),.v (.int _ k)=>(CA b k).map λn=>(D.v (.int .u8 n),s.m)
 |_,_=>s5):=by
 simp only[fa];generalize s.ev x=a;generalize s.ev i=c;split
 .rename_i b k' k;by_cases h:0<=k/\k.toNat<b.size<;>simp[CA,h]
 .rename_i hx;split
  .exact(hx _ _ _ rfl rfl).elim
  .rfl
theorem ai7:type_of% @fa.eq_31:=by intros;exact I! rfl rfl
theorem aG0:type_of% @fa.eq_32:=by intros;exact I! rfl rfl
theorem aF9{s:St}{K:Nat}{ok:Bool}{z:D}{k:a43}:fa s (.mlook K ok z x k) =
 match s.ev k with
 |.v a=>
  if u? K a=a38 then
   match s.ev x with
   |.v (.map s5)=>M (if ok then .tup [z,.v (.bool a39)]else z,s.m)
   |.mp id=>
    match s.m[id]? with
    |some (.mp es)=>
     if(es.all λe=>u? K e.1)=a38 then
      VI ok z s.m (Wt a es)
     else s5
    |_=>s5
   |_=>s5
  else s5
 |_=>s5:=by
 simp only[fa,VI];rfl
theorem be9:type_of% @fa.eq_34:=by intros;exact I! rfl rfl
theorem bf0:type_of% @fa.eq_35:=by intros;exact I! rfl rfl
theorem aF5:type_of% @fa.eq_36:=by intros;exact I! rfl rfl
theorem aG1:type_of% @fa.eq_37:=by intros;exact I! rfl rfl
theorem B9:type_of% @fa.eq_38:=by intros;exact I! rfl rfl
theorem by3:type_of% @fa.eq_39:=by intros;exact I! rfl rfl
theorem bf4:type_of% @fa.eq_40:=by intros;exact I! rfl rfl
theorem aF8:type_of% @fa.eq_41:=by intros;exact I! rfl rfl
theorem aG2:type_of% @fa.eq_42:=by intros;exact I! rfl rfl
def gQ(p:Prop) (a:St->Prop) (s1:St) (b:St->Prop) (s2:St):Prop:=gP p (a s1) (b s2)
def cw7{a b:St->Prop}:gQ True a s1 b s2=a s1:=cl3
def cw8{b a:St->Prop}:gQ False b s1 a s2=a s2:=cl4
def gD(d:D) (b:Bool) (e:St->Prop) (s1:St) (a:St->Prop) (s2 s0:St):Prop:=
 match d with
 |.v (.bool c)=>gQ (c=b) e s1 a s2
 |.v _=>a s0
 |_=>False
def aN0{c b:Bool}{a d:St->Prop}:gD (.v (.bool c)) b a s1 d s2 s0=gQ (c=b) a s1 d s2:=d?
def aM9{b:Bool}{c a:St->Prop}:gD (.v (.tuple #[])) b c s1 a s2 s0=a s0:=d?
def ap5{b:Bool}{c a:St->Prop}:gD (.v undef) b c s1 a s2 s0=a s0:=d?
section
variable {t:List D} {m:List Ent} {i:Nat} {b:Bool} {dst:Option Tmp} {l:List RI} {K:St->Prop} {ins:I} {k q:Nat} {args:List a43}
theorem aw2:Vj P (.op dst (M (i,b)) ins::l) K ⟨t,m⟩=gD (t.getD i d!) b (Vj P (.op dst s5 ins::l) K) ⟨t.set i (.v (.bool b)),m⟩ (Vj P l K) (St.put ⟨t.set i (.v (.bool (!b))),m⟩ dst (.v undef)) (St.put ⟨t,m⟩ dst (.v undef)):=by
 rw[aw1];simp only[j!,gD,gQ,sE,K1]
 cases h:t.getD i .dead with
 |v x=>cases x<;>simp[gP]<;>cases b<;>simp
 |_=>rfl
theorem rY:Vj P (.call dst (M (i,b)) (.func k) args::l) K ⟨t,m⟩=gD (t.getD i d!) b (Vj P (.call dst s5 (.func k) args::l) K) ⟨t.set i (.v (.bool b)),m⟩ (Vj P l K) (St.put ⟨t.set i (.v (.bool (!b))),m⟩ dst (.v undef)) (St.put ⟨t,m⟩ dst (.v undef)):=by
 rw[OU];simp only[j!,gD,gQ,sE,oN]
 cases h:t.getD i .dead with
 |v x=>cases x<;>simp[gP]<;>cases b<;>simp
 |_=>rfl
theorem ap4{t:List D}{i:Nat}{b c:Bool}(h:t.getD i d!=.v (.bool c)) {Y N:List D->Prop}:gP (c=b) (Y t) (N t)=gP (c=b) (Y (t.set i (.v (.bool b)))) (N (t.set i (.v (.bool (!b))))):=by
 have a:=wJ h o0;by_cases hc:c=b
 .subst hc;rw[a];simp[gP]
 .have:(!b)=c:=by cases b<;>cases c<;>simp_all
  rw[this,a];simp[gP,hc]
theorem sY:Vj P (.call dst s5 (.tmp i) args::l) K ⟨t,m⟩=(match t.getD i .dead with|.fn k first caps=>kg P k (first++args.map (St.ev ⟨t,m⟩)++caps) m (KO (Vj P l K) ⟨t,m⟩ dst)|_=>False):=by
 simp only[Vj,j!,St.ec,St.ev]
 first|done|(cases t.getD i d!<;>rfl)
theorem aT8:mD P (q+1) (.op dst (M (i,b)) ins::l) K ⟨t,m⟩=gD (t.getD i d!) b (mD P (q+1) (.op dst s5 ins::l) K) ⟨t.set i (.v (.bool b)),m⟩ (mD P q l K) (St.put ⟨t.set i (.v (.bool (!b))),m⟩ dst (.v undef)) (St.put ⟨t,m⟩ dst (.v undef)):=by
 rw[aT7];simp only[j!,gD,gQ,ax3]
 cases h:t.getD i .dead with
 |v x=>
  cases x with
  |bool c=>exact ap4 h (Y:=λt=>Jv (fa ⟨t,m⟩ ins) (KO (mD P q l K) ⟨t,m⟩ dst)) (N:=λt=>mD P q l K (St.put ⟨t,m⟩ dst (.v undef)))
  |_=>cases b<;>simp[gP]
 |_=>rfl
theorem E6:mD P (q+1) (.call dst (M (i,b)) (.func k) args::l) K ⟨t,m⟩=gD (t.getD i d!) b (mD P (q+1) (.call dst s5 (.func k) args::l) K) ⟨t.set i (.v (.bool b)),m⟩ (mD P q l K) (St.put ⟨t.set i (.v (.bool (!b))),m⟩ dst (.v undef)) (St.put ⟨t,m⟩ dst (.v undef)):=by
 rw[qY];simp only[j!,gD,gQ,dR]
 cases h:t.getD i .dead with
 |v x=>
  cases x with
  |bool c=>exact ap4 h (Y:=λt=>mR P k (args.map (St.ev ⟨t,m⟩)) (mD P q l K) ⟨t,m⟩ dst) (N:=λt=>mD P q l K (St.put ⟨t,m⟩ dst (.v undef)))
  |_=>cases b<;>simp[gP]
 |_=>rfl
end
section
variable {t:List D} {m m':List Ent} {i:Nat} {x:a41} {f:a47} {g:Nat} {b c:Bool} {d d':D} {k n:Nat} {R:St->Prop} {o:a43} {s:St}
def bc2:St.ev ⟨t,m⟩ (.tmp i)=t.getD i d!:=d?
def ad9:St.ev s (.const x)=.v x:=d?
def aA7:St.ev s (.func f)=.fn f [] []:=d?
def w9:St.put ⟨t,m⟩ (M i) d=⟨t.set i d,m⟩:=d?
def u9:St.put s s5 d=s:=d?
def aT2:KO R ⟨t,m⟩ (M i) d m'=R ⟨t.set i d,m'⟩:=d?
def aT3:KO R ⟨t,m⟩ s5 d m'=R ⟨t,m'⟩:=d?
def H8:j! ⟨t,m⟩ (M (i,b))=(match t.getD i .dead with|.v (.bool c)=>M (M (c,b))|.v _=>M (M (!b,b))|_=>s5):=d?
def aj5:sE ⟨t,m⟩ (M (i,b)) c=(match t.getD i .dead with|.v (.bool _)=>⟨t.set i (.v (.bool c)),m⟩|_=>⟨t,m⟩):=d?
def n7{l:List D}:D.cells (.agg l)=l:=d?
def aQ5:D.cells (.v x)=[.v x]:=d?
def at1{l:List D}:D.cells (.sl n l)=[.sl n l]:=d?
def YJ:D.cells (.own i k)=[.own i k]:=d?
def FY{a b:Nat}:D.cells (.view i k a b)=[.view i k a b]:=d?
def o7{a b:Nat}:D.cells (.ref i k a b)=[.ref i k a b]:=d?
def at2:D.cells (.pt d)=[.pt d]:=d?
def at4{a b:List D}:D.cells (.fn f a b)=[.fn f a b]:=d?
def at3:D.cells (.mp i)=[.mp i]:=d?
def bg2{l:List D}:D.ok (.agg l)=a38:=d?
def cu2:D.ok (.v x)=one x:=d?
def bz7{l:List D}:D.ok (.sl n l)=a38:=d?
def bg1:D.ok (.own i k)=a38:=d?
def aH6{a b:Nat}:D.ok (.view i k a b)=a38:=d?
def bg0{a b:Nat}:D.ok (.ref i k a b)=a38:=d?
def bz8:D.ok (.pt d)=a38:=d?
def bA0{a b:List D}:D.ok (.fn f a b)=a38:=d?
def bz9:D.ok (.mp i)=a38:=d?
def aH4{j:a48}{z:Int}:one (.int j z)=a38:=d?
def ak0:one (.bool b)=a38:=d?
def aH1{z:ByteArray}:one (.string z)=a38:=d?
def bf9{a b}:one (.slice s5 a b)=a38:=d?
def aH3:one (.map s5)=a38:=d?
def aH2:one (.pointer s5)=a38:=d?
def aJ9:Hd m (.v (.slice s5 0 0))=M 0:=d?
def bi3{l:List D}:Hd m (.sl n l)=M l.length:=d?
def aJ8:Hd m (.own i k)=(match m[i]? with|some (.live _ a l)=>if a=k then M l.length else s5|_=>s5):=d?
def am7{a b:Nat}:Hd m (.view i k a b)=(match m[i]? with|some _=>M b|none=>s5):=d?
def aQ1:h! n m (.v (.slice s5 0 0))=M []:=d?
def bq3{l:List D}:h! n m (.sl k l)=(if k=n then M l else s5):=d?
def aQ0:h! n m (.own i k)=(match m[i]? with|some (.live S' a l)=>if S'=n/\a=k then M l else s5|_=>s5):=d?
def as4{a b:Nat}:h! n m (.view i k a b)=(match m[i]? with|some (.live S' c l)=>if S'=n/\c=k/\a+b<=l.length then M ((l.drop a).take b)else s5|_=>s5):=d?
theorem bf7{l:List D}:part a38 n off l=(if XE off n l=a38 then M (.agg ((l.drop off).take n))else s5):=by simp only[wy];rfl
def bf8{l:List D}:part a39 n off l=l[off]?:=d?
def ay3{l:List D}{a:Nat}:D.vh (.agg l) a r=.agg (av l a r):=d?
def bv5{a:Nat}:D.vh (.v x) a r=r.headD d!:=d?
def ba4{l:List D}{a:Nat}:D.vh (.sl n l) a r=r.headD d!:=d?
def ay2{a:Nat}:D.vh (.own i k) a r=r.headD d!:=d?
def ba5{a:Nat}:D.vh (.pt d) a r=r.headD d!:=d?
def ay1{a b c:Nat}:D.vh (.ref i k b c) a r=r.headD d!:=d?
def aa6{e:D}:(d::r).headD e=d:=d?
theorem ae4{l:List D}:av (d::l) 0 (d'::r)=d'::av l 0 r:=by simp[av]
theorem ae3{l:List D}:av (d::l) (n+1) r=d::av l n r:=by simp[av,Nat.add_right_comm]
theorem S0{l:List D}:av l 0 []=l:=by simp[av]
theorem i7{l:List D}:az s [] l=M l:=d?
theorem CY{l:List D}{ps:List (Nat×Nat×a43)}:az s ((off,n,o)::ps) l=(if(s.ev o).ok=a38/\kA n (s.ev o).cells=a38/\XE off n l=a38 then az s ps (av l off (s.ev o).cells)else s5):=by simp only[Cx,wy];rfl
def aR0{l:List D}:pd s n [] l=M l:=d?
theorem au5{l:List D}{ps:List (Nat×a43)}:pd s n ((i,o)::ps) l=(if(s.ev o).ok=a38/\kA n (s.ev o).cells=a38/\XE i 1 l=a38 then pd s n ps (l.set i (s.ev o))else s5):=by simp only[Cx,wy];rfl
def au8:bound s n s5=M n:=d?
def au7:bound s n (M o)=(match s.ev o with|.v (.int _ n)=>if 0<=n then M n.toNat else s5|_=>s5):=d?
def aC1:nz n m (.v (.slice s5 0 0)) lo hi=(if lo=0/\hi=0 then M (.v (.slice s5 0 0))else s5):=d?
def bc7{l:List D}:nz n m (.sl k l) lo hi=(if k=n/\lo<=hi/\hi<=l.length then M (.sl n ((l.drop lo).take (hi-lo)))else s5):=d?
def aC0:nz n m (.own i k) lo hi=(match m[i]? with|some (.live S' a l)=>if S'=n/\a=k/\lo<=hi/\hi<=l.length then M (.view i k lo (hi-lo))else s5|_=>s5):=d?
def ae5{a b:Nat}:nz n m (.view i k a b) lo hi=(match m[i]? with|some (.live S' c l)=>if S'=n/\c=k/\lo<=hi/\hi<=b/\a+b<=l.length then M (.view i k (a+lo) (hi-lo))else s5|_=>s5):=d?
def aJ5:r? []=M []:=d?
def am4{l:List D}:r? (.v x::l)=(r? l).map (x::·):=d?
def aO1{j k:a48}{a b:Int}:dz 0 (.v (.int j a)) (.v (.int k b))=(if j=k then M (a==b)else s5):=d?
def aq0{a b:Bool}:dz 1 (.v (.bool a)) (.v (.bool b))=M (a==b):=d?
theorem qH{a b:ByteArray}:(a.toList==b.toList)=s6 (a=b):=by
 by_cases h:a=b
 .subst h;simp
 .rw[w2 h,beq_eq_false_iff_ne];exact λhe=>h (by cases a;cases b;simp only[ByteArray.toList_eq]at he;simpa using he)
theorem aO0{a b:ByteArray}:dz 2 (.v (.string a)) (.v (.string b))=M (s6 (a=b)):=by
 rw[←qH];rfl
theorem bb8{a b:ByteArray}:bj (binOp .eql 0 (.string a) (.string b))=M (.bool (s6 (a=b))):=by
 rw[←qH];rfl
theorem bb7{a b:ByteArray}:bj (binOp .neq 0 (.string a) (.string b))=M (.bool (!s6 (a=b))):=by
 rw[←qH];rfl
def aN9:Je [] [] []=M a38:=d?
def ap9{ks:List Nat}{xs ys:List D}{e:D}:Je (k::ks) (d::xs) (e::ys)=(match dz k d e,Je ks xs ys with|some a,M b=>M (a&&b)|_,_=>s5):=d?
section
variable {j:a48} {a b:Int}
theorem br9:kj .add j a j b=M (.int j (aa j (a+b))):=by simp[kj]
theorem bq9:kj .sub j a j b=M (.int j (aa j (a-b))):=by simp[kj]
theorem br3:kj .mul j a j b=M (.int j (aa j (a*b))):=by simp[kj]
theorem br8:kj .eql j a j b=M (.bool (a==b)):=by simp[kj]
theorem br2:kj .neq j a j b=M (.bool (a !=b)):=by simp[kj]
theorem br4:kj .lss j a j b=M (.bool (s6 (a<b))):=by simp[kj]
theorem br5:kj .leq j a j b=M (.bool (s6 (a<=b))):=by simp[kj]
theorem br6:kj .gtr j a j b=M (.bool (s6 (b<a))):=by simp[kj]
theorem br7:kj .geq j a j b=M (.bool (s6 (b<=a))):=by simp[kj]
theorem br1:kj .quo j a j b=if b=0 then s5 else M (.int j (aa j (a.tdiv b))):=by
 by_cases h:b=0<;>simp[kj,h]
theorem br0:kj .rem j a j b=if b=0 then s5 else M (.int j (a.tmod b)):=by
 by_cases h:b=0<;>simp[kj,h]
end
theorem cr2{b:Bool}:(b !=a39)=b:=by cases b<;>rfl
theorem cr1{b:Bool}:(b !=a38) = !b:=by cases b<;>rfl
theorem bA4{b:Bool}:((!b)=a39)=(b=a38):=by cases b<;>simp
theorem bA3{b:Bool}:((!b)=a38)=(b=a39):=by cases b<;>simp
def sh:Tb s []=M []:=d?
theorem th{l:List RV}:Tb ⟨t,m⟩ (.tmp i::l)=(match Tb ⟨t,m⟩ l with|some ds=>M (t.getD i d!::ds)|none=>s5):=by
 simp only[Tb,SA];cases Tb ⟨t,m⟩ l<;>rfl
theorem pf{l:List RV}:Tb ⟨t,m⟩ (.cell b n i::l)=(match fa ⟨t,m⟩ (.load b n (.tmp i)),Tb ⟨t,m⟩ l with|some (d,_),M ds=>M (d::ds)|_,_=>s5):=by
 simp only[Tb,SA];cases fa ⟨t,m⟩ (.load b n (.tmp i))<;>cases Tb ⟨t,m⟩ l<;>rfl
end
def zx:=(ak (ak (ak (ak (ak (ak (ak (ak (ak @ba0 @bu1) (ak @bt9 @bu0)) (ak (ak @fR @aT4) (ak @bu2 @cu0))) (ak (ak (ak @be7 @by6) (ak @by7 @ct9)) (ak (ak @bf3 @aG8) (ak @by5 @aG7)))) (ak (ak (ak (ak @ai9 @bf1) (ak @aF6 @be8)) (ak (ak @aF7 @aG6) (ak @aG5 @aG4))) (ak (ak (ak @aG9 @aG3) (ak @y9 @by2)) (ak (ak @be5 @aj0) (ak @A9 @ai8))))) (ak (ak (ak (ak (ak @bf2 @cu1) (ak @by4 @be4)) (ak (ak @be6 @ai7) (ak @aG0 @aF9))) (ak (ak (ak @be9 @bf0) (ak @aF5 @aG1)) (ak (ak @B9 @by3) (ak @bf4 @aF8)))) (ak (ak (ak (ak @aG2 @cw7) (ak @cw8 @aN0)) (ak (ak @aM9 @ap5) (ak @aw2 @rY))) (ak (ak (ak @sY @aT8) (ak @E6 @bc2)) (ak (ak @ad9 @aA7) (ak @w9 @u9)))))) (ak (ak (ak (ak (ak (ak @aT2 @aT3) (ak @H8 @aj5)) (ak (ak @n7 @aQ5) (ak @at1 @YJ))) (ak (ak (ak @FY @o7) (ak @at2 @at4)) (ak (ak @at3 @bg2) (ak @cu2 @bz7)))) (ak (ak (ak (ak @bg1 @aH6) (ak @bg0 @bz8)) (ak (ak @bA0 @bz9) (ak @aH4 @ak0))) (ak (ak (ak @aH1 @bf9) (ak @aH3 @aH2)) (ak (ak @aJ9 @bi3) (ak @aJ8 @am7))))) (ak (ak (ak (ak (ak @aQ1 @bq3) (ak @aQ0 @as4)) (ak (ak @bf7 @bf8) (ak @ay3 @bv5))) (ak (ak (ak @ba4 @ay2) (ak @ba5 @ay1)) (ak (ak @aa6 @ae4) (ak @ae3 @S0)))) (ak (ak (ak (ak @i7 @CY) (ak @aR0 @au5)) (ak (ak @au8 @au7) (ak @aC1 @bc7))) (ak (ak (ak @aC0 @ae5) (ak @aJ5 @am4)) (ak (ak @aO1 @aq0) (ak @aO0 @bb8))))))) (ak (ak (ak (ak (ak (ak (ak @bb7 @aN9) (ak @ap9 @br9)) (ak (ak @bq9 @br3) (ak @br8 @br2))) (ak (ak (ak @br4 @br5) (ak @br6 @br7)) (ak (ak @br1 @br0) (ak @cr2 @cr1)))) (ak (ak (ak (ak @bA4 @bA3) (ak @sh @th)) (ak (ak @pf @eab.{0}) (ak @Kab.{0} @aI8))) (ak (ak (ak @aJ3 @aJ1) (ak @false_and @and_false)) (ak (ak @true_or @or_true) (ak @or_self @false_or))))) (ak (ak (ak (ak (ak @or_false @at5) (ak @eq_self.{1} @aw)) (ak (ak @cl3 @cl4) (ak @bne_self_eq_false.{0} @bne_iff_ne.{0}))) (ak (ak (ak @bne_eq_false_iff_eq.{0} @Bool.false_eq_true) (ak @Bool.true_eq_false @false_implies)) (ak (ak @true_implies @implies_true.{1}) (ak @not_true_eq_false @not_false_eq_true)))) (ak (ak (ak (ak @beq_self_eq_true.{0} @aw3) (ak @K1 @oN)) (ak (ak @ax2 @ax3) (ak @dR @H6))) (ak (ak (ak @aT1 @bt8) (ak @G6 @aT5)) (ak (ak @bu3 @av2) (ak @aJ4 @Option.bind_some.{0,0})))))) (ak (ak (ak (ak (ak (ak @Nat.mul_one @Int.toNat_natCast) (ak @Int.natCast_nonneg @ab6)) (ak (ak @ab5 @ab7) (ak @Nat.lt_add_one @Vae))) (ak (ak (ak @true_and @and_true) (ak @and_self @Bool.or_false)) (ak (ak @Bool.false_or @Bool.or_true) (ak @Bool.true_or @Bool.or_self)))) (ak (ak (ak (ak @P6 @List.getD_cons_succ.{0}) (ak @List.getD_cons_zero.{0} @G?.{0})) (ak (ak @O!.{0} @G!.{0}) (ak @M!.{0} @List.set_cons_succ.{0}))) (ak (ak (ak @List.set_cons_zero.{0} @D?.{0,0}) (ak @R?.{0,0} @Kac.{0,0})) (ak (ak @Option.map_none.{0,0} @bs0) (ak @decide_true @cond_true.{1}))))) (ak (ak (ak (ak (ak @cond_false.{1} @if_true.{1}) (ak @if_false.{1} @decide_eq_true_eq)) (ak (ak @decide_eq_false_iff_not @Ο) (ak @pac @Nat.succ_ne_self))) (ak (ak (ak @Bool.not_true @Bool.not_false) (ak @ax9 @decide_false)) (ak (ak @beq_iff_eq.{0} @beq_eq_false_iff_ne.{0}) (ak @ne_eq.{1} @Y!)))) (ak (ak (ak (ak @Nat.add_zero @Mab.{0,0}) (ak @x? @ite_true.{1})) (ak (ak @ite_false.{1} @X!.{0}) (ak @List.drop_succ_cons.{0} @qad.{0}))) (ak (ak (ak @List.take_succ_cons.{0} @List.take_zero.{0}) (ak @List.getElem?_map.{0,0} @List.length_append.{0})) (ak (ak @L! @vad) (ak @rpS @tad.{0})))))))) (ak (ak (ak (ak @Kac.{0,0} @bi2) (ak @aJ7 @cv5)) (ak (ak @cv7 @cv6) (ak @E! @Ap))) (ak (ak (ak @Jn @qt) (ak @Z3 @bs8)) (ak @aK8 @bp0))))
def aB6{α:Type}{e:α->D} [Fr e] {f:D->D->Prop}{l:List α}:eE f (l.map e) (l.map e)=True:=Jj (Fr.l l)
theorem cu3{x:Nat}:(0=x+1)=False:=o0
theorem cu4{x:Nat}:(x+1=0)=False:=o0
theorem cu5{x y:Nat}:(x+1=y+1)=(x=y):=o0
def zq:=(ak (ak (ak (ak (ak (ak @cu3 @cu4) (ak @cu5 @aB6)) (ak (ak @aB7 @ae2) (ak @bw8 @aB5))) (ak (ak (ak @aB4 @ct5) (ak @bc6 @bc3)) (ak (ak @aB0 @bw4) (ak @aB1 @ae0)))) (ak (ak (ak (ak @bc5 @ae1) (ak @bc4 @aA9)) (ak (ak @bw5 @aB2) (ak @bw7 @bo3))) (ak (ak (ak @aN6 @bo4) (ak @aj9 @r9)) (ak (ak @Ap @Jn) (ak @bw6 @cm1))))) (ak (ak (ak (ak (ak @aN1 @BT) (ak @bo9 @rpS)) (ak (ak @tad.{0} @and_self) (ak @and_true @true_and))) (ak (ak (ak @or_true @true_or) (ak @eq_self.{1} @eab.{0})) (ak (ak @Kab.{0} @T'.{0}) (ak @H!.{0,0} @R?.{0,0})))) (ak (ak (ak (ak @D?.{0,0} @List.map_append.{0,0}) (ak @O!.{0} @exists_eq'.{1})) (ak (ak @pac @Ο) (ak @bne_iff_ne.{0} @ne_eq.{1}))) (ak @not_false_eq_true @E!))))
def zs:=(ak (ak (ak @G?.{0} @O!.{0}) (ak @G!.{0} @M!.{0})) (ak (ak @Y! @Ap) @Jn))
variable {P:a44} {N:Nat}
class K! (N:Nat) (K:Exit->St->Prop):Prop where
 h:Stb N K
variable {K:Exit->St->Prop}
instance {b:C}{K:Exit->St->Prop}:K! N (KS P N b K):=⟨bv9⟩
instance {id:Nat}{K:Exit->St->Prop} [h:K! N K]:K! N (KB id K):=⟨bw3 h.h⟩
instance {σ β ρ:Type}{id:Nat}{K:Exit->St->Prop}{S:σ->St}{B:β->St}{z:Ex σ β ρ}:K! N (KL N id K S B z):=⟨bw0⟩
instance {X R:Type}{K:Exit->St->Prop}{S:X->St}{z:X⊕R}:K! N (KJ N K S z):=⟨bw1⟩
instance {rs:List RV}{o:D}:K! 0 (cC rs o):=⟨bw2⟩
def T.loopC{ρ:Type}[c:K! N K] {x:C}{s:St}(S:σ->St) (B:β->St) (step:σ->Option (Ex σ β ρ)) (x0:σ) {y:β⊕ρ}(e:Tm.ca step x0=M y) (d:f' N s (S x0))
 (round:∀a z,step a=M z->(∀v,z=.ret v->y=.inr v)->Tm.T P N x (KL N id K S B z) (S a))
 (rest:∀b,y=.inl b->K .normal (B b)):Tm.T P N (.block id (.loop x)) K s:=T.ca S B step x0 e d c.h round rest
def PJ:oa []=a38:=rfl
theorem jM{α:Type}{e:α->D} [Fr e] {x:α}{l:List D}(h:oa l=a38):oa (e x::l)=a38:=by
 simp_all[oa,Fr.h]
theorem D8{k:a47}{q l:List D}(hc:oa q=a38) (h:oa l=a38):oa (.fn k [] q::l)=a38:=by
 grind[oa,xa]
theorem au0{d d':D}{q:List D}{o:D}(h:e? P k ([d']++q) o) (hq:oa q=a38) (hf:f o m) (a:Sq [] [] 9 d d'):kg P k (d::q) m f:=
 Lc (m1:=m) (d1:=o) ⟨(h m).1,λG w vs hv hi=>(h m).2 G w vs ((vJ (EA 9 d d' q q a (q!.free hq))).1 vs hv) hi⟩ hf
theorem bu7{o:D}{s:St}(h:JV (Tb s rs) s.m o):cC rs o .normal s:=by
 obtain⟨ds,a,h2⟩:=h;exact⟨s,.refl s,ds,a,h2⟩
def Jw{α:Type}(l:List α) (hi:Int):Option (List α):=if 0<=hi/\hi.toNat<=l.length then M (l.take hi.toNat)else s5
def KG{α:Type}(l:List α) (lo:Int):Option (List α):=if 0<=lo/\lo.toNat<=l.length then M (l.drop lo.toNat)else s5
section
variable {α:Type} {e:α->D} {l r x:List α} {i:Int} {y:α} {b:Nat}
def ci3(h:c! l i=M y):0<=i/\l[i.toNat]?=M y:=xy h
theorem ci2(h:c! l i=M y):0<=i/\l[i.toNat]?=M y/\i.toNat<l.length:=by
 obtain⟨h1,h2⟩:=xy h
 grind
theorem MD(h:app b l r=M x):(l.length+r.length)*b<=2 ^ 47/\l.map e++r.map e=x.map e:=by
 obtain⟨h1,rfl⟩:=TU h
 simp_all
theorem aj2(h:put l i y=M x):i.toNat<l.length/\(l.map e).set i.toNat (e y)=x.map e:=by
 obtain⟨h0,h1,rfl⟩:=aj1 h
 simp_all
theorem vW{n c:Int}(h:kD b y n c=M x):0<=n/\n<=c/\c<=2 ^ 62/\c.toNat*b<=2 ^ 48/\k? n.toNat (e y)=x.map e:=by
 obtain⟨h0,h1,h2,h3,rfl⟩:=al6 h
 simp_all
theorem bb6(h:Jw l i=M x):0<=i/\i.toNat<=l.length/\((l.map e).drop 0).take (i.toNat-0)=x.map e:=by
 unfold Jw at h;split at h
 .rename_i hc;obtain rfl:=J' h
  simp_all
 .cases h
theorem ay6(h:Jw l i=M x):0<=i/\i.toNat<=l.length/\(l.map e).take i.toNat=x.map e:=by
 obtain⟨h1,h2,h3⟩:=bb6 (e:=e) h
 simp_all
theorem ad7(h:KG l i=M x):0<=i/\i.toNat<=l.length/\((l.map e).drop i.toNat).take (l.length-i.toNat)=x.map e:=by
 unfold KG at h;split at h
 .rename_i hc;obtain rfl:=J' h
  grind[List.map_drop,lac]
 .cases h
theorem H3(h:KG l i=M x):0<=i/\i.toNat<=l.length/\((l.map e).take l.length).drop i.toNat=x.map e:=by
 obtain⟨h1,h2,h3⟩:=ad7 (e:=e) h
 grind[lac]
theorem bb5(h:KG l i=M x):0<=i/\i.toNat<=l.length/\i.toNat+x.length<=l.length/\l.length-i.toNat=x.length/\((l.map e).drop i.toNat).take x.length=x.map e:=by
 obtain⟨h1,h2,a⟩:=ad7 (e:=e) h;have h4:l.length-i.toNat=x.length:=by
  have:=congrArg List.length a
  grind
 grind
theorem by0{k:a48}{a c d:Int}(h:quo k a c=M d):¬c=0/\aa k (a.tdiv c)=d:=by
 grind[quo]
theorem aU7{k:a48}{a c d:Int}(h:rem k a c=M d):¬c=0/\a.tmod c=d:=by
 grind[rem]
end
theorem eK:∀n:Nat,Tm.ds n []=k? n d!
 |0=>rfl
 |n+1=>by rw[Jn,eK n];rfl
theorem e?.at{l:List D}{o:D}(n:Nat) (hF:rC P k=M F) (hname:((P.funcs[k]?).map λfn=>fn.name == "runtime.NumGoroutine")=M a39) (hf:oa l=a38)
 (hn:F.ntmps=l.length+n) (h:T P 0 F.code (cC F.results o) ⟨l++Tm.ds n [],[]⟩):e? P k l o:=by
 grind[e?.of,eK]
section
variable {P:a44} {N:Nat} {ops:Array Oper} {Q:Exit->Act->a42->Prop} {K:St->Prop} {rl:List RI} {q:Nat} {ps:List (List Nat)}
def q9(R:List (List Nat)->St->Prop) (fp:List (List Nat)) (p:List Nat) (dst:Option Tmp) (i:I) (s:St):Prop:=
 ZH fp (mr s (.op dst s5 i)) p=a38/\Ph s i=a38/\Jv (fa s i) (KO (R (fp++[mr s (.op dst s5 i)])) s dst)
def skY(R:List (List Nat)->St->Prop) (fp:List (List Nat)) (p:List Nat) (dst:Option Tmp) (i:I) (s:St):Prop:=
 ZH fp (mr s (.op dst s5 i)) p=a38/\R (fp++[mr s (.op dst s5 i)]) (s.put dst (.v undef))
def pC(P:a44) (k:a47) (ds:List D) (ids:List Nat) (R:St->Prop) (s:St) (dst:Option Tmp):Prop:=
 ∃d,((∀id∈ids,id<s.m.length)/\∀m,(∀id∈ids,m[id]?=s.m[id]?)->CallT P k ds m λd' m'=>d'=d/\m'=m)/\R (s.put dst d)
def clY(P:a44) (R:List (List Nat)->St->Prop) (fp:List (List Nat)) (p:List Nat) (k:a47) (dst:Option Tmp) (args:List a43) (s:St):Prop:=ZH fp (bc s args) p=a38/\pC P k (args.map s.ev) (bc s args) (R (fp++[bc s args])) s dst
def cnY(R:List (List Nat)->St->Prop) (fp:List (List Nat)) (p:List Nat) (dst:Option Tmp) (args:List a43) (s:St):Prop:=ZH fp (bc s args) p=a38/\R (fp++[bc s args]) (s.put dst (.v undef))
def HB(P:a44):List (List Nat)->Nat->List RI->(St->Prop)->List (List Nat)->St->Prop
 |_,0,l,K,_,s=>Vj P l K s
 |_,_+1,[],_,_,_=>False
 |ps,q+1,.op dst s5 i::l,K,fp,s=>q9 (HB P ps.tail q l K) fp (ps.headD []) dst i s
 |ps,q+1,.op dst (M (t,b)) i::l,K,fp,s=>
  gD (s.t.getD t d!) b (q9 (HB P ps.tail q l K) fp (ps.headD []) dst i) ⟨s.t.set t (.v (.bool b)),s.m⟩ (skY (HB P ps.tail q l K) fp (ps.headD []) dst i) ⟨s.t.set t (.v (.bool (!b))),s.m⟩ s
 |ps,q+1,.call dst s5 (.func k) args::l,K,fp,s=>clY P (HB P ps.tail q l K) fp (ps.headD []) k dst args s
 |ps,q+1,.call dst (M (t,b)) (.func k) args::l,K,fp,s=>
  gD (s.t.getD t d!) b (clY P (HB P ps.tail q l K) fp (ps.headD []) k dst args) ⟨s.t.set t (.v (.bool b)),s.m⟩ (cnY (HB P ps.tail q l K) fp (ps.headD []) dst args) ⟨s.t.set t (.v (.bool (!b))),s.m⟩ s
 |_,_+1,.call ..::_,_,_,_=>False
theorem qO{d:D}{b:Bool}(hd:t.getD i d!=d) {a e:St->Prop}(h:gD d b a ⟨t.set i (.v (.bool b)),m⟩ e ⟨t.set i (.v (.bool (!b))),m⟩ ⟨t,m⟩) :
 match j! ⟨t,m⟩ (M (i,b))with
 |none=>False
 |some s5=>True
 |some (M (c,b))=>(c=b->a ⟨t,m⟩)/\(c≠b->e ⟨t,m⟩):=by
 simp only[j!,hd];unfold gD at h
 cases d with
 |v x=>
  cases x with
  |bool c=>
   simp only[gQ]at h⊢;have f:=wJ hd o0;refine⟨λhc=>?_,λhc=>?_⟩
   .subst hc;have:=h.1 rfl
    simp_all
   .have:=h.2 hc;rwa [show(!b)=c by cases b<;>cases c<;>simp_all,f]at this
  |_=>cases b<;>simpa using h
 |_=>exact h
theorem rL:∀{q:Nat}{l:List RI}{ps:List (List Nat)}{fp:List (List Nat)}{s:St},HB P ps q l K fp s->dE P ps fp q l K s
 |0,l,ps,fp,s,h=>by simp only[HB]at h;simp only[dE];exact kz h
 |q+1,[],ps,fp,s,h=>by simp only[HB]at h
 |q+1,.op dst s5 i::l,ps,fp,s,h=>by
  simp only[HB,q9]at h;obtain⟨e,a,h2⟩:=h;simp only[dE,j!];obtain⟨d,m',j,m⟩:=(Xp _ _).1 h2;exact⟨e,d,m',a,j,rL m⟩
 |q+1,.op dst (M (t,b)) i::l,ps,fp,⟨st,sm⟩,h=>by
  simp only[HB]at h;have h:=qO rfl h;have f:∀s,mr s (.op dst (M (t,b)) i)=mr s (.op dst s5 i):=λ_=>rfl;simp only[dE];rw[f];split at h
  .simp_all
  .grind[j!]
  .rename_i c g o;simp only[o];by_cases hc:c=g
   .obtain⟨e,a,h2⟩:=h.1 hc;obtain⟨d,m',j,m⟩:=(Xp _ _).1 h2;exact⟨e,λ_=>⟨d,m',a,j,rL m⟩,λhn=>(hn hc).elim⟩
   .obtain⟨e,h2⟩:=h.2 hc;exact⟨e,λhn=>(hc hn).elim,λ_=>rL h2⟩
 |q+1,.call dst s5 (.func k) args::l,ps,fp,s,h=>by
  simp only[HB,clY,pC]at h;obtain⟨a,d,e,h2⟩:=h;simp only[dE,j!];exact⟨a,d,l5,rL h2⟩
 |q+1,.call dst (M (t,b)) (.func k) args::l,ps,fp,⟨st,sm⟩,h=>by
  simp only[HB]at h;have h:=qO rfl h;simp only[dE];have n:St.cv ⟨st,sm⟩ (.func k)=.fn k [] []:=rfl;simp only[n];split at h
  .simp_all
  .grind[j!]
  .rename_i c g o;simp only[o];by_cases hc:c=g
   .obtain⟨a,d,e,h2⟩:=h.1 hc;exact⟨a,λ_=>⟨d,l5,rL h2⟩,λhn=>(hn hc).elim⟩
   .obtain⟨a,h2⟩:=h.2 hc;exact⟨a,λhn=>(hc hn).elim,λ_=>rL h2⟩
 |q+1,.call dst s5 (.tmp _) args::l,ps,fp,s,h=>by simp only[HB]at h
 |q+1,.call dst s5 (.const _) args::l,ps,fp,s,h=>by simp only[HB]at h
 |q+1,.call dst s5 (.global _) args::l,ps,fp,s,h=>by simp only[HB]at h
 |q+1,.call dst (M _) (.tmp _) args::l,ps,fp,s,h=>by simp only[HB]at h
 |q+1,.call dst (M _) (.const _) args::l,ps,fp,s,h=>by simp only[HB]at h
 |q+1,.call dst (M _) (.global _) args::l,ps,fp,s,h=>by simp only[HB]at h
 |q+1,.call dst s5 (.meth _ _) args::l,ps,fp,s,h=>by simp only[HB]at h
 |q+1,.call dst (M _) (.meth _ _) args::l,ps,fp,s,h=>by simp only[HB]at h
def T.dy(hm:P.follows .mixedOrders=a38) {l:List RI}{K:Exit->St->Prop}{s:St}(h:HB P [] q l (K .normal) [] s):T P N (.draw q l) K s:=
 T.drawO hm (dB (rL h))
def T.ay(hm:P.follows .mixedOrders=a38) {bs:List (List Nat)}{l:List RI}{K:Exit->St->Prop}{s:St}(ps:List (List Nat)) (a:iB bs l q ps []=a38) (h:HB P ps q l (K .normal) [] s):T P N (.any cuts q bs l) K s:=
 T.any2 hm ps a (rL h)
end
section
variable {P:a44}
theorem RS{ds:List D}{o:D}{R:St->Prop}{s:St}(h:e? P k ds' o) (hf:R (s.put dst o)) (a:lH (Sq [] [] 9) ds ds'):pC P k ds [] R s dst:=
 ⟨o,⟨λ_ h=>(by cases h),λm _=>⟨(h m).1,λG w vs hv hi=>(h m).2 G w vs ((vJ (AB (EA 9) a)).1 vs hv) hi⟩⟩,hf⟩
def Lq(m:List Ent) (d e:D):Prop:=
 match d,e with
 |.own j v,.sl S b=>match m[j]? with|some (.live S' c a)=>S'=S/\c=v/\a=b/\oa a=a38|_=>False
 |.view j v lo n,.sl S b=>match m[j]? with|some (.live S' c a)=>S'=S/\c=v/\lo+n<=a.length/\(a.drop lo).take n=b/\oa b=a38|_=>False
 |.ref j v x s,.pt e=>match m[j]? with|some (.live _ c a)=>c=v/\s=0/\a[x]?=M e/\xa e=a38|_=>False
 |d,e=>Sq [] [] 9 d e
theorem bd0{l:List D}(h:q! [] [] l r) (m:List Ent):q! [] m l r:=by
 induction h with
 |nil=>exact .nil
 |same hf h b=>exact .same hf b
 |dead h b=>exact .dead b
 |nils h b=>exact .nils b
 |agg ha h a b=>exact .agg a b
 |tup ha h a b=>exact .tup a b
 |sl ha h a b=>exact .sl a b
 |pt ha h a b=>exact .pt a b
 |fn ha hc h a c b=>exact .fn a c b
 |ifc ha h a b=>exact .ifc a b
 |wE i hi=>simp at hi
 |own hi=>simp at hi
 |ref hi=>simp at hi
 |view hi=>simp at hi
 |mp hi=>simp at hi
 |Lg hm=>simp at hm
 |fview hm=>simp at hm
 |fref hm=>simp at hm
theorem bh6(hm:∀id∈ids,m'[id]?=m[id]?) {d e:D}{l:List D}(h:Lq m d e) (c:(match df d with|some j=>ids.contains j|none=>a38)=a38) (f:q! [] m' l r):q! [] m' (d::l) (e::r):=by
 unfold Lq at h;split at h
 .rename_i j v S b;simp only[df,Ν]at c;split at h
  .rename_i S' g a hj;obtain⟨rfl,rfl,rfl,hf⟩:=h;exact .Lg l5 rfl (q!.free hf) f
  simp_all
 .rename_i j v lo n S b;simp only[df,Ν]at c;split at h
  .rename_i S' g a hj;obtain⟨rfl,rfl,hn,rfl,hf⟩:=h;exact .fview l5 rfl hn (q!.free hf) f
  simp_all
 .rename_i j v x s e;simp only[df,Ν]at c;split at h
  .rename_i S' g a hj;obtain⟨rfl,rfl,hx,hf⟩:=h;exact .fref (by rw[hm j c];omega) rfl hx (.same hf .nil) f
  simp_all
 .have i:=bd0 (EA 9 d e [] [] h .nil) m';exact q!.app (a:=[d]) (b:=[e]) i f
def iH(ids:List Nat) (ds:List D):Bool:=ds.all λd=>match df d with|some j=>ids.contains j|none=>a38
theorem UM{m m':List Ent}{ids:List Nat}(hm:∀id∈ids,m'[id]?=m[id]?):∀{a b:List D},lH (Lq m) a b->iH ids a=a38->q! [] m' a b
 |[],[],_,_=>.nil
 |d::l,e::r,h,ht=>by
  simp only[iH,θ,E!]at ht;exact bh6 hm h.1 ht.1 (UM hm h.2 ht.2)
 |[],_::_,h,_=>h.elim
 |_::_,[],h,_=>h.elim
theorem BN{ds:List D}{o:D}{R:St->Prop}{s:St}(h:e? P k ds' o) (hf:R (s.put dst o)) (a:flat o=a38) (hi:(ids.all λi=>s6 (i<s.m.length))=a38) (ht:iH ids ds=a38) (b:lH (Lq s.m) ds ds'):pC P k ds ids R s dst:=by
 refine⟨o,⟨λid hid=>?_,λm hm=>?_⟩,hf⟩
 .simp_all
 .exact rH h (UM hm b ht) a ⟨rfl,rfl⟩
variable {m:List Ent} {S x y lo n s:Nat} {b:List D} {e:D}
def bh8:Lq m (.own x y) (.sl S b)=(match m[x]? with|some (.live S' c a)=>S'=S/\c=y/\a=b/\oa a=a38|_=>False):=d?
def aJ6:Lq m (.view x y lo n) (.sl S b)=(match m[x]? with|some (.live S' c a)=>S'=S/\c=y/\lo+n<=a.length/\(a.drop lo).take n=b/\oa b=a38|_=>False):=d?
def bh7{z:Nat}:Lq m (.ref x y z s) (.pt e)=(match m[x]? with|some (.live _ b a)=>b=y/\s=0/\a[z]?=M e/\xa e=a38|_=>False):=d?
def cu8:Lq m (.v z) e=Sq [] [] 9 (.v z) e:=d?
def bi0{z:List D}:Lq m (.agg z) e=Sq [] [] 9 (.agg z) e:=d?
def bB1{z:List D}:Lq m (.sl S z) e=Sq [] [] 9 (.sl S z) e:=d?
def bB2{z:D}:Lq m (.pt z) e=Sq [] [] 9 (.pt z) e:=d?
def bB3{α:Type}{f:α->D} [Fr f] {l:List α}:oa (l.map f)=a38:=Fr.l l
def bh9{α:Type}{f:α->D}{l:List α}:(l.map f).length=l.length:=Mab f
end
variable {P:a44}
def bx8{s:St}:mr s (.op d g (.mv a))=[]:=d?
def bx3{s:St}:Ph s (.mv a)=a38:=d?
def aE6{s:St}:mr s (.op d g (.pick a b c))=[]:=d?
def aC8{s:St}:Ph s (.pick a b c)=a38:=d?
def be2{s:St}{a:BinOp}:mr s (.op d g (.bin a b c))=[]:=d?
def bd5{s:St}{a:BinOp}:Ph s (.bin a b c)=a38:=d?
def be3{s:St}{a:Bool}:mr s (.op d g (.beq a b c))=[]:=d?
def bd6{s:St}{a:Bool}:Ph s (.beq a b c)=a38:=d?
def bx7{s:St}{a:UnOp}:mr s (.op d g (.un a b))=[]:=d?
def bx2{s:St}{a:UnOp}:Ph s (.un a b)=a38:=d?
def aF2{s:St}{a:a48}:mr s (.op d g (.conv a b))=[]:=d?
def aD4{s:St}{a:a48}:Ph s (.conv a b)=a38:=d?
def ai5{s:St}{a:Nat}{b:D}:mr s (.op d g (.alloc a b))=[]:=d?
def ag4{s:St}{a:Nat}{b:D}:Ph s (.alloc a b)=a38:=d?
def be1{s:St}{a:Nat}:mr s (.op d g (.box a b))=[]:=d?
def bd4{s:St}{a:Nat}:Ph s (.box a b)=a38:=d?
def ai4{s:St}{a:List D}{b:List (Nat×Nat×a43)}:mr s (.op d g (.build a b))=[]:=d?
def ag3{s:St}{a:List D}{b:List (Nat×Nat×a43)}:Ph s (.build a b)=a38:=d?
def G9{s:St}{a:Nat}{b:Nat}{c:D}{e:List (Nat×a43)}:mr s (.op d g (.bslice a b c e))=[]:=d?
def oaa{s:St}{a:Nat}{b:Nat}{c:D}{d:List (Nat×a43)}:Ph s (.bslice a b c d)=a38:=d?
def aF0{s:St}{b:Bool}{c:Nat}:mr s (.op d g (.load b c a))=pz s [a]:=d?
def aD2{s:St}{a:Bool}{b:Nat}:Ph s (.load a b c)=a38:=d?
def ah2{s:St}{b:Nat}:mr s (.op d g (.store b a c))=pz s [a]:=d?
def af2{s:St}{a:Nat}:Ph s (.store a b c)=a38:=d?
def aE7{s:St}:mr s (.op d g (.nilc a))=[]:=d?
def aC9{s:St}:Ph s (.nilc a)=a38:=d?
def ah3{s:St}{b:Nat}{c:Option a43}{e:Option a43}{f:Option a43}:mr s (.op d g (.slice b a c e f))=pz s [a]:=d?
def af3{s:St}{a:Nat}{c:Option a43}{d:Option a43}{e:Option a43}:Ph s (.slice a b c d e)=a38:=d?
def ai3{s:St}{a:Bool}{b:Nat}{c:Nat}:mr s (.op d g (.faddr a b c e))=[]:=d?
def ag2{s:St}{a:Bool}{b:Nat}{c:Nat}{d:a43}:Ph s (.faddr a b c d)=a38:=d?
def ai2{s:St}{a:Bool}{b:Nat}{c:Nat}:mr s (.op d g (.field a b c e))=[]:=d?
def ag1{s:St}{a:Bool}{b:Nat}{c:Nat}{d:a43}:Ph s (.field a b c d)=a38:=d?
def ai1{s:St}{b:Nat}:mr s (.op d g (.iaddr b a c))=pz s [a]:=d?
def ag0{s:St}{a:Nat}:Ph s (.iaddr a b c)=a38:=d?
def ai6{s:St}{a:Bool}{b:Nat}{c:Nat}{f:a43}:mr s (.op d g (.aaddr a b c e f))=[]:=d?
def ag5{s:St}{a:Bool}{b:Nat}{c:Nat}{d:a43}:Ph s (.aaddr a b c d e)=a38:=d?
def ai0{s:St}{a:Bool}{b:Nat}{c:Nat}{f:a43}:mr s (.op d g (.index a b c e f))=[]:=d?
def af9{s:St}{a:Bool}{b:Nat}{c:Nat}{d:a43}:Ph s (.index a b c d e)=a38:=d?
def GZ{s:St}{b:Nat}:mr s (.op d g (.extract a b))=[]:=d?
def L0{s:St}{b:Nat}:Ph s (.extract a b)=a38:=d?
def bd8{s:St}:mr s (.op d g (.len a))=pz s [a]:=d?
def bd1{s:St}:Ph s (.len a)=a38:=d?
def aE4{s:St}:mr s (.op d g (.slen a))=[]:=d?
def aC6{s:St}:Ph s (.slen a)=a38:=d?
def F9{s:St}{c:Nat}{e:Nat}:mr s (.op d g (.append c e a b))=pz s [a,b]:=d?
def naa{s:St}{b:Nat}{c:Nat}{d:a43}:Ph s (.append b c a d)=(match s.ev a with|.own ..=>a38|_=>a39):=d?
def HZ{s:St}{a:Nat}{b:Nat}{c:D}{f:a43}:mr s (.op d g (.mkslice a b c e f))=[]:=d?
def M0{s:St}{a:Nat}{b:Nat}{c:D}{d:a43}:Ph s (.mkslice a b c d e)=a38:=d?
def H9{s:St}{a:a47}{b:List a43}{c:List a43}:mr s (.op d g (.mkfunc a b c))=[]:=d?
def paa{s:St}{a:a47}{b:List a43}{c:List a43}:Ph s (.mkfunc a b c)=a38:=d?
def aF1{s:St}  : mr s (.op d g (.fail))=[]:=d?
def aD3{s:St}  : Ph s (.fail)=a38:=d?
def bx9{s:St}{a:Bool}{b:List a43}:mr s (.op d g (.mm a b))=[]:=d?
def bx4{s:St}{a:Bool}{b:List a43}:Ph s (.mm a b)=a38:=d?
def be0{s:St}{a:Bool}{b:List Nat}:mr s (.op d g (.ceq a b c e))=[]:=d?
def bd3{s:St}{a:Bool}{b:List Nat}{d:a43}:Ph s (.ceq a b c d)=a38:=d?
def aE3{s:St}{a:Nat}:mr s (.op d g (.strb a b))=[]:=d?
def aC5{s:St}{a:Nat}:Ph s (.strb a b)=a38:=d?
def aE5{s:St}:mr s (.op d g (.CA a b))=[]:=d?
def aC7{s:St}:Ph s (.CA a b)=a38:=d?
def I9{s:St}{b:Option a43}{c:Option a43}:mr s (.op d g (.sslice a b c))=[]:=d?
def qaa{s:St}{b:Option a43}{c:Option a43}:Ph s (.sslice a b c)=a38:=d?
def ah7{s:St}  : mr s (.op d g (.mkmap))=[]:=d?
def af6{s:St}  : Ph s (.mkmap)=a38:=d?
def ah6{s:St}{b:Nat}{c:Bool}{e:D}{f:a43}:mr s (.op d g (.mlook b c e a f))=pz s [a]:=d?
def af5{s:St}{a:Nat}{b:Bool}{c:D}{d:a43}:Ph s (.mlook a b c d e)=a38:=d?
def aE8{s:St}{a:Nat}:mr s (.op d g (.mput a b c e))=[]:=d?
def aD0{s:St}{a:Nat}{d:a43}:Ph s (.mput a b c d)=a38:=d?
def aE9{s:St}:mr s (.op d g (.mlen a))=pz s [a]:=d?
def aD1{s:St}:Ph s (.mlen a)=a38:=d?
def ah1{s:St}{b:Nat}{c:Option a43}{e:Option a43}:mr s (.op d g (.trunc b a c e))=pz s [a]:=d?
def af1{s:St}{b:Nat}{c:Option a43}{d:Option a43}:Ph s (.trunc b a c d)=(match s.ev a with|.own ..=>a38|_=>a39):=d?
def ah8{s:St}{a:a45}:mr s (.op d g (.mkifc a b))=[]:=d?
def af7{s:St}{a:a45}:Ph s (.mkifc a b)=a38:=d?
def IZ{s:St}{a:Bool}{b:a45}{c:D}:mr s (.op d g (.tassert a b c e))=[]:=d?
def N0{s:St}{a:Bool}{b:a45}{c:D}{d:a43}:Ph s (.tassert a b c d)=a38:=d?
def bd9{s:St}{a:Nat}{b:D}:mr s (.op d g (.clr a b c))=[]:=d?
def bd2{s:St}{a:Nat}{b:D}:Ph s (.clr a b c)=a38:=d?
def aF3{s:St}:mr s (.op d g (.capn a))=[]:=d?
def aD5{s:St}:Ph s (.capn a)=a38:=d?
def ah5{s:St}{b:Bool}:mr s (.op d g (.xv b a))=pz s [a]:=d?
def af4{s:St}{a:Bool}:Ph s (.xv a b)=a38:=d?
def ah9{s:St}{a:Nat}{b:Nat}{c:D}{f:a43}:mr s (.op d g (.mkapp a b c e f))=[]:=d?
def af8{s:St}{a:Nat}{b:Nat}{c:D}{d:a43}:Ph s (.mkapp a b c d e)=a38:=d?
section
variable {ps:List (List Nat)} {q k t:Nat} {b:Bool} {dst:Option Tmp} {i:I} {l:List RI} {K:St->Prop} {fp:List (List Nat)} {s:St} {args:List a43} {R:List (List Nat)->St->Prop} {p f g:List Nat} {x y:Nat} {o:a43} {os:List a43} {st:List D} {m:List Ent} {S:Nat} {r:List D}
theorem aO7:HB P ps 0 l K fp s=Vj P l K s:=by simp only[HB]
theorem cm4:HB P ps (q+1) (.op dst s5 i::l) K fp s=q9 (HB P ps.tail q l K) fp (ps.headD []) dst i s:=by simp only[HB]
theorem bp2:HB P ps (q+1) (.op dst (M (t,b)) i::l) K fp ⟨st,m⟩=gD (st.getD t d!) b (q9 (HB P ps.tail q l K) fp (ps.headD []) dst i) ⟨st.set t (.v (.bool b)),m⟩ (skY (HB P ps.tail q l K) fp (ps.headD []) dst i) ⟨st.set t (.v (.bool (!b))),m⟩ ⟨st,m⟩:=by simp only[HB]
theorem aO8:HB P ps (q+1) (.call dst s5 (.func k) args::l) K fp s=clY P (HB P ps.tail q l K) fp (ps.headD []) k dst args s:=by simp only[HB]
theorem ar2:HB P ps (q+1) (.call dst (M (t,b)) (.func k) args::l) K fp ⟨st,m⟩=gD (st.getD t d!) b (clY P (HB P ps.tail q l K) fp (ps.headD []) k dst args) ⟨st.set t (.v (.bool b)),m⟩ (cnY (HB P ps.tail q l K) fp (ps.headD []) dst args) ⟨st.set t (.v (.bool (!b))),m⟩ ⟨st,m⟩:=by simp only[HB]
theorem bz6:q9 R fp p dst i s=(ZH fp (mr s (.op dst s5 i)) p=a38/\Ph s i=a38/\Jv (fa s i) (KO (R (fp++[mr s (.op dst s5 i)])) s dst)):=d?
def bx0:skY R fp p dst i s=(ZH fp (mr s (.op dst s5 i)) p=a38/\R (fp++[mr s (.op dst s5 i)]) (s.put dst (.v undef))):=d?
def cq6:clY P R fp p k dst args s=(ZH fp (bc s args) p=a38/\pC P k (args.map s.ev) (bc s args) (R (fp++[bc s args])) s dst):=d?
def cq4:cnY R fp p dst args s=(ZH fp (bc s args) p=a38/\R (fp++[bc s args]) (s.put dst (.v undef))):=d?
def bb1:bc s []=[]:=d?
def aA2:bc s (o::os)=Uq (s.ev o)++bc s os:=d?
def cv2:Uq (.v z)=[]:=d?
def bm2:Uq (.agg r)=cp r:=d?
def bl7:Uq (.tup r)=cp r:=d?
def ci5:Uq (.sl S r)=cp r:=d?
def ci6{d:D}:Uq (.pt d)=Uq d:=d?
def ci7{a c:List D}:Uq (.fn k a c)=cp a++cp c:=d?
def aL2:Uq d!=[]:=d?
def bl9:Uq (.own x y)=[x]:=d?
def bl8{v:Nat}:Uq (.ref x y u v)=[x]:=d?
def aL1{v:Nat}:Uq (.view x y u v)=[x]:=d?
def bm0:cp []=[]:=d?
def aL3{d:D}:cp (d::r)=Uq d++cp r:=d?
def bm1{α:Type}{f:α->D} [Fr f] {l:List α}:cp (l.map f)=[]:=gA (Fr.l l)
def ac0:pz s []=[]:=d?
def aa0:pz s (o::os)=(match df (s.ev o)with|some id=>id::pz s os|none=>pz s os):=d?
def bs4:ZH fp f []=a38:=d?
def aR8:ZH fp f (j::p)=(Kv (fp.getD j []) f&&ZH fp f p):=d?
def cr7:Kv [] f=a38:=d?
def cr6:Kv (x::g) f=(zE x f&&Kv g f):=d?
def cC7:zE x []=a38:=d?
def cC6:zE x (y::g)=(yW x y&&zE x g):=d?
def bA8:yW 0 0=a39:=d?
def bA7:yW 0 (y+1)=a38:=d?
def bA6:yW (x+1) 0=a38:=d?
def bA5:yW (x+1) (y+1)=yW x y:=d?
def bv7:df (.v z)=s5:=d?
def az3:df (.agg r)=s5:=d?
def az0:df (.tup r)=s5:=d?
def ba7:df (.sl S r)=s5:=d?
def ba8{d:D}:df (.pt d)=s5:=d?
def ac2:df d!=s5:=d?
def az2:df (.own x y)=M x:=d?
def az1{v:Nat}:df (.ref x y u v)=M x:=d?
def ac1{v:Nat}:df (.view x y u v)=M x:=d?
def cv3{l:List Nat}{ps:List (List Nat)}:(l::ps).headD []=l:=d?
def ct3{l:List Nat}{ps:List (List Nat)}:(l::ps).tail=ps:=d?
def cv4:([]:List (List Nat)).headD []=[]:=d?
def ct4:([]:List (List Nat)).tail=[]:=d?
end
def zy:=(ak (ak (ak (ak (ak (ak (ak (ak @bx8 @bx3) (ak @aE6 @aC8)) (ak (ak @be2 @bd5) (ak @be3 @bd6))) (ak (ak (ak @bx7 @bx2) (ak @aF2 @aD4)) (ak (ak @ai5 @ag4) (ak @be1 @bd4)))) (ak (ak (ak (ak @ai4 @ag3) (ak @G9 @oaa)) (ak (ak @aF0 @aD2) (ak @ah2 @af2))) (ak (ak (ak @aE7 @aC9) (ak @ah3 @af3)) (ak (ak @ai3 @ag2) (ak @ai2 @ag1))))) (ak (ak (ak (ak (ak @ai1 @ag0) (ak @ai6 @ag5)) (ak (ak @ai0 @af9) (ak @GZ @L0))) (ak (ak (ak @bd8 @bd1) (ak @aE4 @aC6)) (ak (ak @F9 @naa) (ak @HZ @M0)))) (ak (ak (ak (ak @H9 @paa) (ak @aF1 @aD3)) (ak (ak @bx9 @bx4) (ak @be0 @bd3))) (ak (ak (ak @aE3 @aC5) (ak @aE5 @aC7)) (ak (ak @I9 @qaa) (ak @ah7 @af6)))))) (ak (ak (ak (ak (ak (ak @ah6 @af5) (ak @aE8 @aD0)) (ak (ak @aE9 @aD1) (ak @ah1 @af1))) (ak (ak (ak @ah8 @af7) (ak @IZ @N0)) (ak (ak @bd9 @bd2) (ak @aF3 @aD5)))) (ak (ak (ak (ak @ah5 @af4) (ak @ah9 @af8)) (ak (ak @aO7 @cm4) (ak @bp2 @aO8))) (ak (ak (ak @ar2 @bz6) (ak @bx0 @cq6)) (ak (ak @cq4 @bb1) (ak @aA2 @cv2))))) (ak (ak (ak (ak (ak @bm2 @bl7) (ak @ci5 @ci6)) (ak (ak @ci7 @aL2) (ak @bl9 @bl8))) (ak (ak (ak @aL1 @bm0) (ak @aL3 @bm1)) (ak (ak @ac0 @aa0) (ak @bs4 @aR8)))) (ak (ak (ak (ak @cr7 @cr6) (ak @cC7 @cC6)) (ak (ak @bA8 @bA7) (ak @bA6 @bA5))) (ak (ak (ak @bv7 @az3) (ak @az0 @ba7)) (ak (ak @ba8 @ac2) (ak @az2 @az1))))))) (ak (ak (ak (ak @ac1 @cv3) (ak @ct3 @cv4)) (ak (ak @ct4 @bh8) (ak @aJ6 @bh7))) (ak (ak (ak @cu8 @bi0) (ak @bB1 @bB2)) (ak @bB3 @bh9))))
section
variable {P:a44} {N:Nat} {ops:Array Oper} {Q:Exit->Act->a42->Prop} {K:St->Prop} {rl:List RI} {q:Nat} {ps:List (List Nat)} {pl:List (Option Nat)}
def aN4(R:List (List Nat)->St->Prop) (fp:List (List Nat)) (p:List Nat) (k:Nat) (dst:Option Tmp) (i:I) (s:St):Prop:=
 ZH fp [k] p=a38/\match Pr s k i with
  |some (d,e)=>R (fp++[[k]]) (({ s with m:=s.m.set k e }:St).put dst d)
  |none=>False
def nL(P:a44) (k:a47) (ds:List D) (ids:List Nat) (fp:List (List Nat)) (p:List Nat) (x:Nat) (f:D->Ent->Prop) (s:St):Prop:=
 (ids.elem x&&ZH fp ids p)=a38/\∃d e,((∀id∈ids,id<s.m.length)/\∀m,(∀id∈ids,m[id]?=s.m[id]?)->CallT P k ds m λd' m'=>d'=d/\m'=m.set x e)/\f d e
@[congr] theorem aZ3{P:a44} {k:a47} {ds ds':List D} {ids a:List Nat} {fp b:List (List Nat)} {p c:List Nat} {x:Nat} {f:D->Ent->Prop} {s:St} (h1:ds=ds') (h2:ids=a) (h3:fp=b) (h4:p=c):nL P k ds ids fp p x f s=nL P k ds' a b c x f s:=l5
def cwY(P:a44) (R:List (List Nat)->St->Prop) (fp:List (List Nat)) (p:List Nat) (x:Nat) (k:a47) (dst:Option Tmp) (args:List a43) (s:St):Prop:=
 nL P k (args.map s.ev) (bc s args) fp p x (λd e=>R (fp++[bc s args]) (({ s with m:=s.m.set x e }:St).put dst d)) s
def Lj(P:a44):List (Option Nat)->List (List Nat)->Nat->List RI->(St->Prop)->List (List Nat)->St->Prop
 |_,_,0,l,K,_,s=>Vj P l K s
 |_,_,_+1,[],_,_,_=>False
 |some k::pl,ps,q+1,.op dst s5 i::l,K,fp,s=>aN4 (Lj P pl ps.tail q l K) fp (ps.headD []) k dst i s
 |none::pl,ps,q+1,.op dst s5 i::l,K,fp,s=>q9 (Lj P pl ps.tail q l K) fp (ps.headD []) dst i s
 |none::pl,ps,q+1,.op dst (M (t,b)) i::l,K,fp,s=>
  gD (s.t.getD t d!) b (q9 (Lj P pl ps.tail q l K) fp (ps.headD []) dst i) ⟨s.t.set t (.v (.bool b)),s.m⟩ (skY (Lj P pl ps.tail q l K) fp (ps.headD []) dst i) ⟨s.t.set t (.v (.bool (!b))),s.m⟩ s
 |none::pl,ps,q+1,.call dst s5 (.func k) args::l,K,fp,s=>clY P (Lj P pl ps.tail q l K) fp (ps.headD []) k dst args s
 |some x::pl,ps,q+1,.call dst s5 (.func k) args::l,K,fp,s=>cwY P (Lj P pl ps.tail q l K) fp (ps.headD []) x k dst args s
 |_,_,_+1,_::_,_,_,_=>False
theorem OE:∀{q:Nat}{l:List RI}{pl:List (Option Nat)}{ps:List (List Nat)}{fp:List (List Nat)}{s:St},Lj P pl ps q l K fp s->Vs P pl ps fp q l K s
 |0,l,pl,ps,fp,s,h=>by simp only[Lj]at h;simp only[Vs];exact kz h
 |q+1,[],pl,ps,fp,s,h=>by simp[Lj]at h
 |q+1,.op dst s5 i::l,M k::pl,ps,fp,s,h=>by
  simp only[Lj,aN4]at h;obtain⟨j,h2⟩:=h;split at h2
  .rename_i d e hf;simp only[Vs];exact⟨j,trivial,d,e,hf,OE h2⟩
  simp_all
 |q+1,.op dst s5 i::l,s5::pl,ps,fp,s,h=>by
  simp only[Lj,q9]at h;obtain⟨j,a,h2⟩:=h;simp only[Vs,j!];obtain⟨d,m',o,p⟩:=(Xp _ _).1 h2;exact⟨j,d,m',a,o,OE p⟩
 |q+1,.op dst (M (t,b)) i::l,s5::pl,ps,fp,⟨st,sm⟩,h=>by
  simp only[Lj]at h;have h:=qO rfl h;have m:∀s,mr s (.op dst (M (t,b)) i)=mr s (.op dst s5 i):=λ_=>rfl;simp only[Vs];show ZH fp (mr _ (.op dst (M (t,b)) i)) (ps.headD [])=a38/\_;rw[m];split at h
  .simp_all
  .grind[j!]
  .rename_i c r u;refine⟨?_,?_⟩
   .by_cases hc:c=r
    .exact(h.1 hc).1
    .exact(h.2 hc).1
   rw[u];by_cases hc:c=r
   .obtain⟨j,a,h2⟩:=h.1 hc;obtain⟨d,m',o,p⟩:=(Xp _ _).1 h2;exact⟨λ_=>⟨d,m',a,o,OE p⟩,λhn=>(hn hc).elim⟩
   .obtain⟨j,h2⟩:=h.2 hc;exact⟨λhn=>(hc hn).elim,λ_=>OE h2⟩
 |q+1,.call dst s5 (.func k) args::l,s5::pl,ps,fp,s,h=>by
  simp only[Lj,clY,pC]at h;obtain⟨a,d,j,h2⟩:=h;simp only[Vs,j!];exact⟨a,d,l5,OE h2⟩
 |q+1,.op dst g i::l,[],ps,fp,s,h=>by simp[Lj]at h
 |q+1,.op dst (M g) i::l,M k::pl,ps,fp,s,h=>by simp[Lj]at h
 |q+1,.call dst g f args::l,[],ps,fp,s,h=>by simp[Lj]at h
 |q+1,.call dst s5 (.func k) args::l,M x::pl,ps,fp,s,h=>by
  simp only[Lj,cwY,nL]at h;obtain⟨a,d,e,j,h2⟩:=h;simp only[E!,List.elem_eq_mem,w3]at a;obtain⟨a,n⟩:=a;simp only[Vs];exact⟨trivial,a,n,d,e,l5,OE h2⟩
 |q+1,.call dst (M g) f args::l,M x::pl,ps,fp,s,h=>by simp[Lj]at h
 |q+1,.call dst s5 (.tmp _) args::l,M x::pl,ps,fp,s,h=>by simp[Lj]at h
 |q+1,.call dst s5 (.const _) args::l,M x::pl,ps,fp,s,h=>by simp[Lj]at h
 |q+1,.call dst s5 (.global _) args::l,M x::pl,ps,fp,s,h=>by simp[Lj]at h
 |q+1,.call dst s5 (.meth _ _) args::l,M x::pl,ps,fp,s,h=>by simp[Lj]at h
 |q+1,.call dst (M g) f args::l,s5::pl,ps,fp,s,h=>by simp[Lj]at h
 |q+1,.call dst s5 (.tmp _) args::l,s5::pl,ps,fp,s,h=>by simp[Lj]at h
 |q+1,.call dst s5 (.const _) args::l,s5::pl,ps,fp,s,h=>by simp[Lj]at h
 |q+1,.call dst s5 (.global _) args::l,s5::pl,ps,fp,s,h=>by simp[Lj]at h
 |q+1,.call dst s5 (.meth _ _) args::l,s5::pl,ps,fp,s,h=>by simp[Lj]at h
def T.ao(hm:P.follows .mixedOrders=a38) {bs:List (List Nat)}{l:List RI}{K:Exit->St->Prop}{s:St}(ps:List (List Nat)) (pl:List (Option Nat)) (a:iB bs l q ps pl=a38) (b:Yz s.m pl=a38) (h:Lj P pl ps q l (K .normal) [] s):T P N (.any cuts q bs l) K s:=
 T.anyO hm ps pl a b (OE h)
def WG:List (Option Nat)->List RI->Bool
 |none::pl,_::l=>WG pl l
 |some _::pl,.call ..::l=>WG pl l
 |[],_=>a38
 |_,_=>a39
theorem OO:∀{pl:List (Option Nat)}{l:List RI},WG pl l=a38->∀i p,pO pl i=M p->∃a b c d,l[i]?=M (.call a b c d)
 |[],l,_,i,p,h=>by grind[pO]
 |none::pl,[],h,_,_,_=>by grind[WG]
 |some _::pl,[],h,_,_,_=>by grind[WG]
 |none::pl,y::l,h,0,p,h2=>by grind[pO]
 |none::pl,y::l,h,i+1,p,h2=>by
  simp only[WG]at h;simpa using OO h i p (by grind[pO])
 |some x::pl,.call a b c d::l,h,0,p,h2=>⟨a,b,c,d,rfl⟩
 |some x::pl,.call a b c d::l,h,i+1,p,h2=>by
  simp only[WG]at h;simpa using OO h i p (by grind[pO])
 |some x::pl,.op a b c::l,h,_,_,_=>by grind[WG]
theorem T.dp(hm:P.follows .mixedOrders=a38) {l:List RI}{K:Exit->St->Prop}{s:St}(ps:List (List Nat)) (pl:List (Option Nat)) (c:ps=xE q) (a:WG pl l=a38) (b:Yz s.m pl=a38) (h:Lj P pl ps q l (K .normal) [] s):T P N (.draw q l) K s:=by
 subst c;exact T.drawP hm (xE q) pl (OO a) PU b (OE h)
end
section
variable {P:a44} {pl:List (Option Nat)} {ps:List (List Nat)} {q k t:Nat} {b:Bool} {dst:Option Tmp} {i:I} {l:List RI} {K:St->Prop} {fp:List (List Nat)} {s:St} {st:List D} {m:List Ent} {args:List a43} {R:List (List Nat)->St->Prop} {p:List Nat} {z:D} {S:Nat} {x:a43}
theorem aO9:Lj P pl ps 0 l K fp s=Vj P l K s:=by simp only[Lj]
theorem bp5:Lj P (M k::pl) ps (q+1) (.op dst s5 i::l) K fp s=aN4 (Lj P pl ps.tail q l K) fp (ps.headD []) k dst i s:=by simp only[Lj]
theorem cm5:Lj P (s5::pl) ps (q+1) (.op dst s5 i::l) K fp s=q9 (Lj P pl ps.tail q l K) fp (ps.headD []) dst i s:=by simp only[Lj]
theorem bp4:Lj P (s5::pl) ps (q+1) (.op dst (M (t,b)) i::l) K fp ⟨st,m⟩=gD (st.getD t d!) b (q9 (Lj P pl ps.tail q l K) fp (ps.headD []) dst i) ⟨st.set t (.v (.bool b)),m⟩ (skY (Lj P pl ps.tail q l K) fp (ps.headD []) dst i) ⟨st.set t (.v (.bool (!b))),m⟩ ⟨st,m⟩:=by simp only[Lj]
theorem aP0:Lj P (s5::pl) ps (q+1) (.call dst s5 (.func k) args::l) K fp s=clY P (Lj P pl ps.tail q l K) fp (ps.headD []) k dst args s:=by simp only[Lj]
theorem ar3{x:Nat}:Lj P (M x::pl) ps (q+1) (.call dst s5 (.func k) args::l) K fp s=cwY P (Lj P pl ps.tail q l K) fp (ps.headD []) x k dst args s:=by simp only[Lj]
theorem cq3{R:List (List Nat)->St->Prop}{p:List Nat}{x:Nat}:cwY P R fp p x k dst args s=nL P k (args.map s.ev) (bc s args) fp p x (λd e=>R (fp++[bc s args]) (({ s with m:=s.m.set x e }:St).put dst d)) s:=d?
def bo0:aN4 R fp p k dst i s=(ZH fp [k] p=a38/\match Pr s k i with|some (d,e)=>R (fp++[[k]]) (({ s with m:=s.m.set k e }:St).put dst d)|none=>False):=d?
def ap6:Pr s k (.alloc S z)=(match s.m[k]? with|some (.live S' Va [])=>if S'=S then M (.ref k (Va+1) 0 0,.live S (Va+1) [z])else s5|_=>s5):=d?
theorem bo2:Pr s k (.box S x)=(match s.m[k]? with|some (.live S' Va [])=>if S'=S/\(s.ev x).ok=a38/\kA S (s.ev x).cells=a38 then M (.ref k (Va+1) 0 0,.live S (Va+1) [s.ev x])else s5|_=>s5):=by simp only[Cx];rfl
def bo1{n:Nat}{qs:List (Nat×a43)}:Pr s k (.bslice S n z qs)=(match s.m[k]? with|some (.live S' Va [])=>if S'=S then(pd s S qs (k? n z)).map λl=>(.own k (Va+1),.live S (Va+1) l)else s5|_=>s5):=d?
end
def zo:=(ak (ak (ak (ak @aO9 @bp5) (ak @cm5 @bp4)) (ak (ak @aP0 @ar3) (ak @cq3 @bo0))) (ak (ak @ap6 @bo2) @bo1))
theorem u6{G G':Gh}{w w':a42}(b:U' G w G' w') {d d':D}(hd:∀u,VRel G w d u->VRel G' w' d' u) {post:List D}(a:oa post=a38) :
 ∀{pre:List D} {us:List a41},oa pre=a38->VsRel G w (pre++d::post) us->VsRel G' w' (pre++d'::post) us
 |[],us,_,h=>by
  simp only[O!,VsRel]at h⊢;obtain⟨u,r,rfl,c,h2⟩:=h;exact⟨u,r,rfl,hd u c,VsRel.free b a h2⟩
 |p::pre,us,e,h=>by
  simp only[oa,E!]at e;simp only[G?,VsRel]at h⊢;obtain⟨u,r,rfl,c,h2⟩:=h;exact⟨u,r,rfl,VRel.free b e.1 c,u6 b hd a e.2 h2⟩
section
variable {P:a44}
end
variable {P:a44}
def ba2(P:a44) (f:a47) (ds:List D) (m:List Ent) (R:D->List Ent->Prop):Prop:=
 I' P f/\∀(G:Gh) (w:a42) (vs:List a41),VsRel G w ds vs->Inv G w m->
  Calls P f vs.toArray w λe w'=>∃v d m' G',e=.returned v/\R d m'/\VRel G' w' d v/\Inv G' w' m'/\y? 0 G w m G' w' m'
theorem at7{f:a47}{ds:List D}(g:rC P f=M F) (hname:((P.funcs[f]?).map λfn=>fn.name == "runtime.NumGoroutine")=M a39)
 (h:T P 0 F.code (kH F.results R) ⟨ds++k? (F.ntmps-ds.length) d!,m⟩):ba2 P f ds m R:=by
 unfold rC at g;split at g
 .rename_i fn i;split at g
  .rename_i b r hb k;simp only[A']at g;obtain⟨c,hc,rfl⟩:=g;refine⟨⟨fn,i,l5,l5⟩,λG w vs hv hi=>?_⟩;refine calls_of_wp i hb ?_;have j:=hv.length;have hr:o? G w { tmps:=vs.toArray++Array.replicate (fn.ntmps-vs.toArray.size) undef,defers:=[] } ⟨ds++k? (fn.ntmps-ds.length) d!,m⟩:=by
    refine⟨?_,hi,rfl⟩;simp only[Array.toList_append,Array.toList_replicate,List.size_toArray,j];exact hv.append (vU _ _ _)
   refine Code.wp_mono ?_ (h b hc G w _ (L! _) hr);rintro e a' w' ⟨s',G',n,a,p⟩;have fin:(∃ds,Tb s' r=M ds/\R (Vt ds) s'.m)->a'.defers=[]/\∃v,(results fn a'.tmps).run P w'=.ok v w'/\∃v_1 d m' G',Ending.returned v=.returned v_1/\R d m'/\VRel G' w' d v_1/\Inv G' w' m'/\y? 0 G w m G' w' m':=by
    rintro⟨es,o,s⟩;obtain⟨v,l,q⟩:=SL (F:=⟨fn.ntmps,r,c⟩) k a o;exact⟨a.defers,v,l,v,_,_,G',rfl,s,q,a.inv,p⟩
   cases e with
   |normal=>exact fin n
   |ret=>exact fin n
   |_=>exact n.elim
  simp_all
 simp_all
theorem bn8{S:Nat}{l:List D}{o:D}
 (q:m[id]?=M (.live S Va l)) (I:oa pre=a38) (z:oa post=a38) (hl:oa l=a38)
 (h:ba2 P k (pre++.own 0 0::post) [.live S 0 l] λd m'=>q! [] m' [d] [o]) :
 CallT P k (pre++.own id Va::post) m λd m'=>d=o/\m'=m.set id .gone:=by
 refine⟨h.1,λG w vs hv hi=>?_⟩;have hlen:id<m.length:=(dab.1 q).1;obtain⟨eV,eS,eN,eC,eB⟩:=hi.ent id _ q;have E:U' G w ⟨G.F,1,λ_=>G.B id,λ_=>0,λ_=>G.S id,λ_=>G.N id,λ_=>G.C id⟩ w:=⟨λ_ h=>h,λ_ _=>rfl⟩;have j8:=u6 E (d:=.own id Va) (d':=.own 0 0) (λu hu=>by
  simp only[VRel]at hu⊢
  grind) z I hv
 have O:Inv ⟨G.F,1,λ_=>G.B id,λ_=>0,λ_=>G.S id,λ_=>G.N id,λ_=>G.C id⟩ w [.live S 0 l]:=by
  refine⟨rfl,hi.F,?_,?_,hi.gl.bare λ_ h=>h⟩
  .intro i e he
   cases i with
   |zero=>
    simp at he;subst he;refine⟨rfl,eS,eN,eC,?_⟩;rcases eB with h|⟨b,cs,T,g,h2,L,W,Z⟩
    .simp_all
    .exact .inr ⟨b,cs,T,g,h2,L,W,Xa.free E rfl hl Z⟩
   |succ i=>simp at he
  grind
 have c:∀b,Mg ⟨G.F,1,λ_=>G.B id,λ_=>0,λ_=>G.S id,λ_=>G.N id,λ_=>G.C id⟩ [.live S 0 l] b->G.B id=M b:=by
  rintro b ⟨i,e,he,-,j9⟩;omega
 refine(h.2 _ w vs j8 O).mono ?_;rintro e w' ⟨v,d,m',G',rfl,X,hvd,t,a⟩;have live1:(Ent.live S Va l).isLive=a38:=rfl;have Y:=(X.rel t (λi j v h=>o4)).1 [v] (by simp only[VsRel];simp_all);simp only[VsRel]at Y;obtain⟨u,us,he,g,_⟩:=Y;injection he with he _;subst he;have s:=HP X;simp only[oa,pac]at s;have H:Le G w ⟨λb=>G'.F b\/Mg G' m' b,G.n,G.B,G.V,G.S,G.N,G.C⟩ w':=by
  refine⟨λb hb=>.inl (a.F b hb),λb hb=>a.heap b hb,x? _,λi _=>.inl o0⟩
 have A:∀i x,m[i]?=M x->x.isLive=a38->∀b,G.B i=M b->b<w.heap.size/\¬G.F b:=λi x hx hl b hb=>(hi.ent i x hx).lt hl hb;have notO:∀i x,m[i]?=M x->x.isLive=a38->i≠id->∀b,G.B i=M b->G.B id≠M b:=λi x hx f Q b hb j9=>Q (hi.apart i id x _ hx q f live1 b hb j9);have p:∀i x,(m.set id .gone)[i]?=M x->(m[i]?=M x/\i≠id)\/(i=id/\x=.gone):=by
  grind
 refine⟨v,o,_,⟨λb=>G'.F b\/Mg G' m' b,G.n,G.B,G.V,G.S,G.N,G.C⟩,rfl,⟨rfl,rfl⟩,?_,⟨by simp[hi.n],?_,?_,?_,t.gl.bare λ_ h=>.inl h⟩,⟨H,a.os,a.tape,a.output,a.size,?_,?_,?_⟩⟩
 .refine VRel.free (G:=Eb G' m' []) ⟨?_,λ_ _=>rfl⟩ s g;rintro b (hb|⟨hb,_⟩)
  all_goals simp_all
 .rintro b (hb|hb)
  .exact t.F b hb
  .exact(Mg.lt t hb).1
 .intro i x hx;rcases p i x hx with⟨g,h2⟩|⟨rfl,rfl⟩
  .by_cases f:x.isLive=a38
   .refine(hi.ent i x g).mono H o0 (λb hb=>?_) (λb hb _ r=>?_)
    .exact a.keep b (A i x g f b hb).1 λho=>notO i x g f h2 b hb (c b ho)
    .rcases r with r|r
     .rcases a.newF b (A i x g f b hb).1 r with h|h
      all_goals grind
     .exact(notO i x g f h2 b hb (c b (a.newB b (A i x g f b hb).1 r))).elim
   .cases x with
    |gone=>trivial
    |_=>grind[Ent.isLive]
  .trivial
 .intro i j x y hx hy K ly b hb j6;rcases p i x hx with⟨g,h2⟩|⟨rfl,rfl⟩
  .rcases p j y hy with⟨L,W⟩|⟨rfl,rfl⟩
   .exact hi.apart i j x y g L K ly b hb j6
   grind
  grind
 .intro b hb R;exact a.keep b hb λho=>R ⟨id,_,q,live1,c b ho⟩
 .intro b hb r;rcases r with r|r
  .rcases a.newF b hb r with h|h
   .simp_all
   .exact .inr ⟨id,_,q,live1,c b h⟩
  .exact .inr ⟨id,_,q,live1,c b (a.newB b hb r)⟩
 .rintro b hb ⟨i,x,hx,K,j9⟩;rcases p i x hx with⟨g,h2⟩|⟨rfl,rfl⟩
  .exact⟨i,x,g,K,j9⟩
  .cases K
def jN(P:a44) (k:Nat) (pre post:List D) (S:Nat) (l:List D) (o:D):Prop:=∀m id Va,m[id]?=M (.live S Va l)->CallT P k (pre++.own id Va::post) m λd m'=>d=o/\m'=m.set id .gone
def ax4(P:a44) (k:Nat) (pre post:List D) (S:Nat) (l l':List D) (o:D):Prop:=∀m id Va,m[id]?=M (.live S Va l)->CallT P k (pre++.own id Va::post) m λd m'=>d=o/\m'=m.set id (.live S Va l')
theorem jN.at{S:Nat}{l:List D}{o:D}(n:Nat) (j:rC P k=M F) (b:((P.funcs[k]?).map λfn=>fn.name == "runtime.NumGoroutine")=M a39)
 (f:oa pre=a38) (c:oa post=a38) (hl:oa l=a38) (hn:F.ntmps=(pre++.own 0 0::post).length+n)
 (h:T P 0 F.code (cC F.results o) ⟨(pre++.own 0 0::post)++Tm.ds n [],[.live S 0 l]⟩):jN P k pre post S l o:=by
 intro m id Va hm;refine bn8 hm f c hl (at7 j b ?_);rw[hn,Nat.add_sub_cancel_left,←eK];refine T.clo (h.mono ?_);have key:∀(e:Exit) (s:St),(∀s',kH F.results (λd m'=>q! [] m' [d] [o]) e s' = ∃ds,Tb s' F.results=M ds/\q! [] s'.m [Vt ds] [o])->(∃S,f' 0 s S/\∃ds,Tb S F.results=M ds/\q! [] S.m [Vt ds] [o])->HU 0 (kH F.results λd m'=>q! [] m' [d] [o]) e s:=by
  intro e s he ⟨S,i,h2⟩ G w a hN hr;obtain⟨G',h3,h4⟩:=Ox i hN hr
  grind
 intro e s g
 cases e with
 |normal=>exact key _ s (λ_=>rfl) g
 |ret=>exact key _ s (λ_=>rfl) g
 |_=>exact(g:False).elim
theorem V1{S:Nat}{l ds:List D}{o:D}(h:jN P k pre post S l o) (a:ds=pre++.own id Va::post) (hm:m[id]?=M (.live S Va l)) (hf:f o (m.set id .gone)):kg P k ds m f:=by
 subst a;exact Lc (h m id Va hm) hf
theorem aQ7{S:Nat}{l l' ds:List D}{o:D}(h:ax4 P k pre post S l l' o) (a:ds=pre++.own id Va::post) (hm:m[id]?=M (.live S Va l)) (hf:f o (m.set id (.live S Va l'))):kg P k ds m f:=by
 subst a;exact Lc (h m id Va hm) hf
theorem qR{v:a41}(a:I' P k) (h:∀w,Calls P k vs.toArray w λe w'=>e=.returned v/\w'=w):e? P k (vs.map .v) (.v v):=by
 refine λm=>⟨a,λG w us hv hi=>?_⟩;have:∀(vs us:List a41),VsRel G w (vs.map .v) us->us=vs:=by
  intro vs
  induction vs with
  |nil=>intro us h;simpa [VsRel] using h
  |cons x l ih=>
   intro us h;simp only[D?,VsRel,VRel]at h
   grind
 obtain rfl:=this vs us hv;refine(h w).mono ?_;rintro e w' ⟨rfl,rfl⟩;exact⟨_,_,_,G,rfl,⟨rfl,rfl⟩,I?,hi,Step.refl _ _ _⟩
open Go.Sort
variable {P:a44}
def eI(n:Int):D:=.v (.int .i64 n)
theorem zP{G:Gh}{w:a42}{b:Nat}:∀{zs:List Int}{off:Nat},Xa G w b 1 (zs.map eI) off->∀j (h:j<zs.length),w.cell? ⟨b,off+j,s5⟩=M (.int .i64 zs[j])
 |[],_,_,j,h=>absurd h (Qad j)
 |z::zs,off,hr,j,h=>by
  simp only[D?,Xa]at hr;obtain⟨⟨u,a,h2,c⟩,d⟩:=hr;simp only[eI,VRel]at a;subst a
  cases j with
  |zero=>exact(c 0 (.int .i64 z) rfl).2
  |succ j=>
   have:=zP d j l5
   grind
theorem F0{G:Gh}{w:a42}{b:Nat}:∀{zs:List Int}{off:Nat},(∀j (h:j<zs.length),w.cell? ⟨b,off+j,s5⟩=M (.int .i64 zs[j]))->Xa G w b 1 (zs.map eI) off
 |[],_,_=>by simp[Xa]
 |z::zs,off,hr=>by
  simp only[D?,Xa];refine⟨⟨.int .i64 z,by simp[eI,VRel],rfl,?_⟩,F0 λj h=>?_⟩
  .intro j c hc
   cases j with
   |zero=>
    have:c=.int .i64 z:=by grind[Value.cells]
    subst this;exact⟨rfl,hr 0 (Vae _)⟩
   |succ j=>grind[Value.cells]
  .have:=hr (j+1) l5
   grind
theorem Ζ{b:Nat}{T:a45}{zs:List Int}(hb:w.heap[b]?=M (.cells cs T (0,0))) (h:∀j (h:j<zs.length),w.cell? ⟨b,off+j,s5⟩=M (.int .i64 zs[j])):Holds (Value.int .i64) w b off zs.toArray:=by
 intro j hj
 grind[World.frozen?]
theorem X4{b:Nat}{T:a45}{n:Nat}{os:Array Obj}(hb:w.heap[b]?=M (.cells cs T (0,0))) (hlen:off+ys.length<=cs.size) (hw:w'=grow (putRow (Value.int .i64) (Sort.ahead w n) b off ys.toArray) os) :
 w'.os=w.os/\w'.tape=w.tape/\w'.output=w.output/\w.heap.size<=w'.heap.size/\(∀k,k<w.heap.size->k≠b->w'.heap[k]?=w.heap[k]?)/\
  w'.heap[b]?=M (.cells (putCells (Value.int .i64) off ys.toArray cs) T (0,0))/\∀j (h:j<ys.length),w'.cell? ⟨b,off+j,s5⟩=M (.int .i64 ys[j]):=by
 subst hw;have hbs:b<w.heap.size:=by
  grind
 have a:(grow (putRow (Value.int .i64) (Sort.ahead w n) b off ys.toArray) os).heap=w.heap.modify b (onCells (putCells (Value.int .i64) off ys.toArray))++os:=rfl;have c:(grow (putRow (Value.int .i64) (Sort.ahead w n) b off ys.toArray) os).heap[b]?=M (.cells (putCells (Value.int .i64) off ys.toArray cs) T (0,0)):=by
  rw[a,Array.getElem?_append_left l5,Array.getElem?_modify,J rfl,hb];rfl
 refine⟨rfl,rfl,rfl,?_,?_,c,?_⟩
 all_goals grind[World.cell?,putCells]
theorem EY{k:a47}(s:I' P k) {zs:List Int}(hm:m[id]?=M (.live 1 Va (zs.map eI))) (hlen:ys.length=zs.length)
 (p:∀w b off cap,Holds (Value.int .i64) w b off zs.toArray->b<w.heap.size->Calls P k #[.slice (M ⟨b,off,s5⟩) zs.length cap] w λe w'=>e=.returned (.tuple #[])/\∃n os,w'=grow (putRow (Value.int .i64) (Sort.ahead w n) b off ys.toArray) os)
 (o:∀w cap,Calls P k #[.slice s5 0 cap] w λe w'=>e=.returned (.tuple #[])/\w'=w) :
 CallT P k [.own id Va] m λd m'=>d=.tup []/\m'=m.set id (.live 1 Va (ys.map eI)):=by
 refine⟨s,λG w vs hv hi=>?_⟩;obtain⟨eV,eS,eN,eC,eB⟩:=hi.ent id _ hm;simp only[VsRel,VRel]at hv;obtain⟨u,r,rfl,⟨a,n,c,rfl,g1,g2,g3⟩,rfl⟩:=hv;obtain⟨rfl,rfl,rfl⟩:=g3 eV;simp only[Mab]at eN eC;rcases eB with⟨f,q⟩|⟨b,cs,T,f,t,hb,hc,hr⟩
 .have g:=congrArg Nae q;dsimp only at g;have x:zs=[]:=Δ U;have v:ys=[]:=Δ U;subst x v;rw[f,eN];refine(o w _).mono ?_;rintro e w' ⟨rfl,rfl⟩;refine⟨_,_,_,G,rfl,⟨rfl,rfl⟩,by simp[VRel,VsRel],?_,?_⟩
  .have:m.set id (.live 1 Va (([]:List Int).map eI))=m:=by
    apply nac
    grind
   simp_all
  .have:m.set id (.live 1 Va (([]:List Int).map eI))=m:=by
    apply nac
    grind
   grind[Step.refl]
 .rw[f,eN];have i:b<w.heap.size:=by
   grind
  refine(p w b _ _ (Ζ hb (zP hr)) i).mono ?_;rintro e w' ⟨rfl,n,os,hw⟩;obtain⟨y,z,A,D,E,F,p7⟩:=X4 hb U hw;have l:=ti (w':=w') hi hm rfl (e':=.live 1 Va (ys.map eI)) rfl (G.B id) Va (G.N id) (G.C id) (.inr ⟨eV.symm,rfl,rfl,rfl⟩) y z A D
   (λk hk j=>E k hk (λh=>j (by rw[f,h]))) (λk hk=>.inl hk) (by
    refine⟨by simp[Gh.vh],by grind[Gh.vh],by grind[Gh.vh],by grind[Gh.vh],.inr ⟨b,_,T,by grind[Gh.vh],t,F,?_,F0 (by grind[Gh.vh])⟩⟩
    grind[Gh.vh,putCells])
  exact⟨_,_,_,_,rfl,⟨rfl,rfl⟩,by simp[VRel,VsRel],l.1,l.2⟩
theorem DY{k:a47}(s:I' P k) {zs:List Int}(hm:m[id]?=M (.live 1 Va (zs.map eI))) (hlen:ys.length<=zs.length)
 (p:∀w b off cap,Holds (Value.int .i64) w b off zs.toArray->zs.length<=cap->Calls P k #[.slice (M ⟨b,off,s5⟩) zs.length cap] w λe w'=>e=.returned (.slice (M ⟨b,off,s5⟩) ys.length cap)/\∃n xs,xs.length+ys.length=zs.length/\w'=grow (putRow (Value.int .i64) (Sort.ahead w n) b off (ys++xs).toArray) #[])
 (o:∀w cap,Calls P k #[.slice s5 0 cap] w λe w'=>e=.returned (.slice s5 0 cap)/\w'=w) :
 CallT P k [.own id Va] m λd m'=>d=.own id (Va+1)/\m'=m.set id (.live 1 (Va+1) (ys.map eI)):=by
 refine⟨s,λG w vs hv hi=>?_⟩;obtain⟨eV,eS,eN,eC,eB⟩:=hi.ent id _ hm;simp only[VsRel,VRel]at hv;obtain⟨u,r,rfl,⟨a,n,c,rfl,g1,g2,g3⟩,rfl⟩:=hv;obtain⟨rfl,rfl,rfl⟩:=g3 eV;simp only[Mab]at eN eC;rcases eB with⟨i,q⟩|⟨b,cs,T,i,t,hb,hc,hr⟩
 .have l:=congrArg Nae q;dsimp only at l;have x:zs=[]:=Δ U;have v:ys=[]:=Δ U;subst x v;rw[i,eN];refine(o w _).mono ?_;rintro e w' ⟨rfl,rfl⟩;have f:=ti (w':=w') hi hm rfl (e':=.live 1 (Va+1) (([]:List Int).map eI)) rfl s5 (Va+1) 0 (G.C id) (.inl U) rfl rfl rfl (x? _)
   (λk hk g=>rfl) (λk hk=>o4) (by
    refine⟨by simp[Gh.vh],by grind[Gh.vh],by simp[Gh.vh],o0,.inl ⟨by simp[Gh.vh],by grind[Gh.vh]⟩⟩)
  refine⟨_,_,_,_,rfl,⟨rfl,rfl⟩,?_,f.1,f.2⟩;simp only[VRel];exact⟨_,_,_,rfl,g1,by simp[Gh.vh],λ_=>by simp[Gh.vh]⟩
 .rw[i,eN];refine(p w b _ _ (Ζ hb (zP hr)) eC).mono ?_;rintro e w' ⟨rfl,n,xs,hx,hw⟩;obtain⟨y,z,A,D,E,F,p7⟩:=X4 hb o4 hw;have f:=ti (w':=w') hi hm rfl (e':=.live 1 (Va+1) (ys.map eI)) rfl (G.B id) (Va+1) ys.length (G.C id) (.inl U) y z A D
   (λk hk g=>E k hk (λh=>g (by rw[i,h]))) (λk hk=>.inl hk) (by
    refine⟨by simp[Gh.vh],by grind[Gh.vh],by simp[Gh.vh],by grind[Gh.vh],.inr ⟨b,_,T,by grind[Gh.vh],t,F,?_,F0 λj h=>?_⟩⟩
    all_goals grind[Gh.vh,putCells])
  refine⟨_,_,_,_,rfl,⟨rfl,rfl⟩,?_,f.1,f.2⟩;simp only[VRel];exact⟨_,_,_,rfl,g1,by simp[Gh.vh],λ_=>by grind[Gh.vh]⟩
def ar8{k:a47}(f:I' P k) {zs:List Int}(a:ys.length=zs.length)
 (d:∀w b off cap,Holds (Value.int .i64) w b off zs.toArray->b<w.heap.size->Calls P k #[.slice (M ⟨b,off,s5⟩) zs.length cap] w λe w'=>e=.returned (.tuple #[])/\∃n os,w'=grow (putRow (Value.int .i64) (Sort.ahead w n) b off ys.toArray) os)
 (c:∀w cap,Calls P k #[.slice s5 0 cap] w λe w'=>e=.returned (.tuple #[])/\w'=w):ax4 P k [] [] 1 (zs.map eI) (ys.map eI) (.tup []):=
 λm id Va hm=>EY f hm a d c
variable {P:a44} {N:Nat}
theorem VsRel.swap{l:List D}{us:List a41}{d:D}{u:a41}(h:VsRel G w l us) (hu:us.getD i undef=u) (hi:i<l.length) (hd:VRel G w d u):VsRel G w (l.set i d) us:=by
 have:=h.set hd i;have hlen:=h.length;have he:us.set i u=us:=by
  apply nac
  grind
 simp_all
theorem T.xv{i j d S:Nat}{l:List D}{neg:Bool}{s:St}{K:Exit->St->Prop}(A:s.t[i]?=M (.sl S l)) (hl:oa l=a38) (hj:j<s.t.length) (hij:i≠j) (hjd:j≠d) (hid:i≠d)
 (h:∀b,(l≠[]->b=neg)->K .normal ⟨(s.t.set j (.sl S l)).set d (.v (.bool b)),s.m⟩) :
 T P N (.eU [.op (M j) s5 (.mv (.tmp i)),.op (M d) s5 (.xv neg (.tmp j))]) K s:=by
 intro code hc G w a hN hr;have hi:i<s.t.length:=(dab.1 A).1;obtain⟨u,hu,hv⟩:=hr.t.getElem A;have q:=hv;simp only[VRel]at q;obtain⟨p,n,c,rfl,hn,hnc,z⟩:=q;have x:a.tmps.toList.getD i undef=.slice p n c:=l5
 have y:o? G w a ⟨s.t.set i (.v (.slice p n c)),s.m⟩:=⟨hr.t.swap x hi I?,hr.inv,hr.defers⟩;have B:T P N (.eU [.op (M j) s5 (.mv (.tmp i)),.op (M d) s5 (.xv neg (.tmp j))]) (λe s'=>e=.normal/\s'=⟨((s.t.set i (.v (.slice p n c))).set j (.v (.slice p n c))).set d (.v (.bool (p.isNone !=neg))),s.m⟩) ⟨s.t.set i (.v (.slice p n c)),s.m⟩:=by
  refine T.eU ?_;have e1:((s.t.set i (.v (.slice p n c))).getD i d!)=.v (.slice p n c):=l5
  have e2:((s.t.set i (.v (.slice p n c))).set j (.v (.slice p n c))).getD j d!=.v (.slice p n c):=by
   simp_all
  simp only[ln,j!,fa,St.ev,e1,e2,St.put,T',H!,exists_and_left,exists_eq_left',and_assoc,R1]
 refine Code.wp_mono ?_ (B code hc G w a hN y);rintro e a' w' ⟨s',G',⟨rfl,rfl⟩,h2,r⟩;have o:VRel G' w' (.sl S l) (.slice p n c):=VRel.free ⟨r.F,r.heap⟩ (by grind[xa]) hv;refine⟨⟨(s.t.set j (.sl S l)).set d (.v (.bool (p.isNone !=neg))),s.m⟩,G',h _ ?_,⟨?_,h2.inv,h2.defers⟩,r⟩
 .intro hne;rcases z with z|⟨b,off,rfl,-⟩
  all_goals simp_all
 .have f:=h2.t;have g:∀k,(((s.t.set i (.v (.slice p n c))).set j (.v (.slice p n c))).set d (.v (.bool (p.isNone !=neg))))[k]?=M (.v (.slice p n c))->a'.tmps.toList.getD k undef=.slice p n c:=by
   intro k hk;obtain⟨u,h1,h2⟩:=f.getElem hk;simp only[VRel]at h2
   simp_all
  have gi:=g i o4;have gj:=g j o4;have C:=f.swap gi l5 o;have k2:=C.swap gj l5 o;have:((((s.t.set i (.v (.slice p n c))).set j (.v (.slice p n c))).set d (.v (.bool (p.isNone !=neg)))).set i (.sl S l)).set j (.sl S l)=(s.t.set j (.sl S l)).set d (.v (.bool (p.isNone !=neg))):=by
   apply nac
   grind
  simp_all
theorem aB3{n:Nat}{d:D}(h:xa d=a38):Sq ρ m (n+1) d d:=by
 cases d with
 |v x=>exact rfl
 |agg a=>exact .inl ⟨rfl,by grind[xa]⟩
 |tup a=>exact .inl ⟨rfl,by grind[xa]⟩
 |sl S a=>exact⟨rfl,.inl ⟨rfl,by grind[xa]⟩⟩
 |pt d=>exact .inl ⟨rfl,by grind[xa]⟩
 |fn f a c=>
  simp only[xa,E!]at h;exact⟨rfl,.inl ⟨rfl,h.1⟩,.inl ⟨rfl,h.2⟩⟩
 |dead=>exact trivial
 |ifc t d=>exact⟨rfl,.inl ⟨rfl,by grind[xa]⟩⟩
 |own=>grind[xa]
 |ref=>grind[xa]
 |view=>grind[xa]
 |mp=>grind[xa]
def bq4(E:List (Nat×List Nat)) (P:a44) (ops:Array Oper) (o:Oper) (op:Op):Option I:=
 match op with
 |.binOp b t x y _=>
  match E.lookup t with
  |some ks=>M (.ceq (s6 (b=.neq)) ks x y)
  |none=>ax P ops o op
 |_=>ax P ops o op
def aQ2(E:List (Nat×List Nat)) (P:a44) (ops:Array Oper) (o:Oper):Option RI:=
 match M' ops o.guard with
 |none=>s5
 |some g=>
  match SS P o.op with
  |some (f,args)=>M (.call o.dst g f args)
  |none=>(bq4 E P ops o o.op).map λi=>.op o.dst g i
def HN(E:List (Nat×List Nat)) (P:a44) (ops:Array Oper):List Oper->Option (List RI)
 |[]=>M []
 |o::l=>
  match aQ2 E P ops o,HN E P ops l with
  |some r,M rs=>M (r::rs)
  |_,_=>s5
def PG(E:List (Nat×List Nat)) (P:a44):Code->Option C
 |.skip=>M .skip
 |.region _ ops a39=>(HN E P ops ops.toList).map .eU
 |.region _ ops a38=>
  match HN E P ops ops.toList with
  |some rl=>
   if dK (Pb ops) rl (qOf (Pb ops) rl.length)=a38 then M (.draw (qOf (Pb ops) rl.length) rl)
   else M (.any (KY (Pb ops) rl.length (qOf (Pb ops) rl.length)) (qOf (Pb ops) rl.length) (Pb ops) rl)
  |none=>s5
 |.seq a b=>
  match PG E P a,PG E P b with
  |some x,M y=>M (.seq x y)
  |_,_=>s5
 |.cond c a b=>
  match PG E P a,PG E P b with
  |some x,M y=>M (.cond c x y)
  |_,_=>s5
 |.block id a=>(PG E P a).map (.block id)
 |.loop a=>(PG E P a).map .loop
 |.exit id=>M (.exit id)
 |.ret=>M .ret
 |.label _=>M .skip
 |.rangeFunc ..=>M .stuck
 |_=>s5
def bq5(E:List (Nat×List Nat)) (P:a44) (f:a47):Option Fun:=
 match P.funcs[f]? with
 |some fn=>
  match fn.body,sD P fn.results.toList with
  |some b,M r=>(PG E P b).map λc=>⟨fn.ntmps,r,c⟩
  |_,_=>s5
 |none=>s5
theorem u8l{n:Nat}{h:n<2 ^ 8}:(⟨⟨⟨n,h⟩⟩⟩:UInt8)=UInt8.ofNat n:=by
 apply UInt8.toBitVec_inj.1;simp only[BitVec.ofFin_eq_ofNat];rfl
def arl{l:List UInt8}:(⟨l⟩:Array UInt8)=l.toArray:=rfl
structure Kf (P:a44) (n:Nat) where
 F:Fun
 ok:rC P n=M F
 nm:((P.funcs[n]?).map λfn=>fn.name == "runtime.NumGoroutine")=M a39
variable {n:Nat}
def Kf.o{P:a44}(K:Kf P n):rC P n=M K.F/\((P.funcs[n]?).map λfn=>fn.name == "runtime.NumGoroutine")=M a39:=⟨K.ok,K.nm⟩
abbrev Kf.of(E:List (Nat×List Nat)) {P:a44}{n:Nat}{F:Fun}(_:bq5 E P n=M F:=by conv=>lhs;reduce;try simp only[Int.reduceOfNat,Int.reduceNegSucc,u8l,arl,UInt8.reduceOfNat]) (ok:rC P n=M F:=by kernel_rfl) (nm:((P.funcs[n]?).map λfn=>fn.name == "runtime.NumGoroutine")=M a39:=by kernel_rfl):Kf P n:=⟨F,ok,nm⟩
def ss:type_of% @T.Vo:=@T.Vo
def rg:type_of% @T.rg:=@T.rg
def sr:type_of% @T.sr:=@T.sr
def cd:type_of% @T.cd:=@T.cd
def bk:type_of% @T.bk:=@T.bk
def sk:type_of% @T.skip:=@T.skip
def xt:type_of% @T.exit:=@T.exit
def ay:type_of% @T.ay:=@T.ay
def dy:type_of% @T.dy:=@T.dy
def ao:type_of% @T.ao:=@T.ao
def tl:type_of% @T.UP:=@T.UP
def cq:type_of% @IM:=@IM
def lq:type_of% @RS:=@RS
def bs:type_of% @Zp:=@Zp
def lc:type_of% @T.loopC:=@T.loopC
def tj:type_of% @T.join:=@T.join
def lv:type_of% @BN:=@BN
def cv:type_of% @DN:=@DN
section
variable {P:a44} {N:Nat}
theorem jn{a b:C}{s:St} [K! N K] (S:X->St) {o:Option X}{f:X->Option β}{r:β}(h:o.bind f=M r) (ha:∀z,o=M z->Tm.T P N a (KJ N K S (.inl z:X⊕Unit)) s) (hb:∀z,o=M z->f z=M r->Tm.T P N b K (S z)):Tm.T P N (.seq a b) K s:=by
 obtain⟨z,c,h2⟩:=Zp h;refine T.join (R:=Unit) S (.inl z) (ha z c) ?_;rintro _ ⟨⟩;exact hb z c h2
theorem gi{q N:Prop} [Decidable q] {α:Type}{A B:Option α}{r:α}(h:(if q then A else B)=M r) (b:q->A=M r->Y) (h2:¬q->B=M r->N) (a:p=q:=by rfl):gP p Y N:=gP.ite h (iff_of_eq a) b h2
def rt:type_of% @T.ret:=@T.ret
def er:type_of% @iv:=@iv
end
def eT{α:Type} [BEq α] [LawfulBEq α] {a b:α}(h:a=b):(a==b)=a38:=beq_iff_eq.2 h
def eF{α:Type} [BEq α] [LawfulBEq α] {a b:α}(h:¬a=b):(a==b)=a39:=beq_eq_false_iff_ne.2 h
def eD{α:Type} [BEq α] [LawfulBEq α] {a b:α}(h:¬ ¬a=b):(a==b)=a38:=beq_iff_eq.2 (v!.1 h)
def nT{α:Type} [BEq α] [LawfulBEq α] {a b:α}(h:¬a=b):(a !=b)=a38:=bne_iff_ne.2 h
theorem nF{α:Type} [BEq α] [LawfulBEq α] {a b:α}(h:a=b):(a !=b)=a39:=by simpa using h
def nD{α:Type} [BEq α] [LawfulBEq α] {a b:α}(h:¬ ¬a=b):(a !=b)=a39:=nF (v!.1 h)
theorem bI{α:Type}{l:List α}{i:Int}{g:α->Option β}{r:β}(h:(c! l i).bind g=M r):∃x,0<=i/\l[i.toNat]?=M x/\g x=M r:=by
 obtain⟨x,a,h2⟩:=Zp h;obtain⟨b,c⟩:=ci3 a;exact⟨x,b,c,h2⟩
theorem bO{α:Type}{l:List α}{i:Int}{g:α->Option β}{r:β}(h:(c! l i).bind g=M r):∃x,0<=i/\l[i.toNat]?=M x/\i.toNat<l.length/\g x=M r:=by
 obtain⟨x,a,h2⟩:=Zp h;obtain⟨b,c,d⟩:=ci2 a;exact⟨x,b,c,d,h2⟩
section
variable {P:a44} {N:Nat}
def jm{a b:C}{s:St} [K! N K] {o:Option X}{f:X->Option β}{r:β}(h:o.bind f=M r) (S:X->St) (ha:∀z,o=M z->Tm.T P N a (KJ N K S (.inl z:X⊕Unit)) s) (hb:∀z,o=M z->f z=M r->Tm.T P N b K (S z)):Tm.T P N (.seq a b) K s:=jn S h ha hb
def lm{ρ:Type}[hst:K! N K] {x:C}{s:St}{step:σ->Option (Ex σ β ρ)}{x0:σ}{y:β⊕ρ}(d:Tm.ca step x0=M y) (S:σ->St) (B:β->St) (c:f' N s (S x0))
 (round:∀a z,step a=M z->(∀v,z=.ret v->y=.inr v)->Tm.T P N x (KL N id K S B z) (S a))
 (rest:∀b,y=.inl b->K .normal (B b)):Tm.T P N (.block id (.loop x)) K s:=T.loopC S B step x0 d c round rest
end
abbrev ok(i:Nat):Option Nat×Nat×Nat:=(M i,0,0)
abbrev ov(i v:Nat):Option Nat×Nat×Nat:=(M i,v,0)
abbrev on(S:Nat):Option Nat×Nat×Nat:=(s5,S,0)
theorem tq{N:Nat}(ρ:Iv) {s:St}(h:lH (Sq ρ s.m 9) s.t S.t/\RJ ρ s.m ρ S.m) (hk:RD ρ N=a38:=by rfl) (a:(ρ.filterMap (·.1)).Nodup:=by decide):f' N s S:=f'.q ρ hk a h
def fq:type_of% @yL:=@yL
def zr:type_of% (ak (ak @qt @sh) (ak @th @pf)):=ak (ak @qt @sh) (ak @th @pf)
class U! (l:List D):Prop where
 h:oa l=a38
instance:U! []:=⟨rfl⟩
instance {α:Type}{e:α->D} [Fr e] {x:α}{l:List D} [U! l]:U! (e x::l):=⟨jM U!.h⟩
theorem dk{P:a44}{l:List D}{o:D}(n:Nat) (K:Kf P k) (h:T P 0 K.F.code (cC K.F.results o) ⟨l++Tm.ds n [],[]⟩) (hf:oa l=a38:=by exact U!.h) (hn:K.F.ntmps=l.length+n:=by rfl):e? P k l o:=e?.at n K.ok K.nm hf hn h
end Go.Tm
