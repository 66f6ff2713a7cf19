/-
  The engine: a part of the proof that trees of values are carried along by the program: no condition.
-/
import Derived.Test.YtmhfebelfmgckaaGreatDoorEB
import Derived.ProofKit
import Derived.OpenShut
import Derived.WideShapes
import Derived.Lib.LaidTab
import Derived.SizedLaws
import Derived.Sort.Row
import Derived.Sort.Grow
import Derived.KernelRfl
open And renaming intro->ak
open Bool renaming and_eq_true->Laa,and_true->Hac,true_and->Jab
open Classical renaming not_not->Haa
open Eq renaming trans->Caa
open List renaming all_cons->nac,all_eq_true->fab,append_nil->eab,cons_append->Waa,contains_iff_mem->aab,drop_drop->Rad,drop_zero->jad,eq_nil_of_length_eq_zero->Uaa,ext_getElem?->xac,foldlM->faf,getElem?_cons_succ->cac,getElem?_cons_zero->oab,getElem?_eq_getElem->Baa,getElem?_eq_some_iff->gab,getElem_mem->Iaa,length_cons->bab,length_map->dac,length_nil->sab,map_cons->cab,map_nil->Zac,mem_append->tab,mem_cons->Tab,mem_map_of_mem->vae,nil_append->qab,replicate->Daa,replicate_zero->mad,take_length->tac,take_of_length_le->kac
open Nat renaming le_refl->Paa,lt_succ_self->cae,not_lt_zero->Jad,sub_zero->qad,zero_add->Qab,zero_le->pab,zero_lt_succ->Nae
open Option renaming bind_eq_some_iff->gac,map_eq_some_iff->Faa,map_some->Cac
open Option.some renaming inj->wab,injEq->dab
open Prod renaming fst->Fae
open Prod.mk renaming injEq->Vaa
set_option linter.all false
namespace Go.Tm
variable {k i id j off lo hi u Oa:Nat}{R f:D->List Ent->Prop}{d dst:Option Tmp}{r ds' pre post:List D}{Y p:Prop}{t:TypeId}{g:Option (Tmp×Bool)}{c b a x:Operand}{X:Type}{w w':World}{cs:Array Value}{G:Gh}{m' es:List Ent}{vs:List Value}{rs:List RV}{F:Fun}{z:Value}{s1 s2 s0:St}{ys:List Int}{cuts ids:List Nat}
inductive W where
 |c (c:C)
 |l (l:List RI)
 |an (q:Nat) (bs:List (List Nat)) (l:List RI)
 |yo (pl:List (Option Nat)) (ps fp:List (List Nat)) (q:Nat) (l:List RI)
 |f (k:Nat) (ds:List D)
 |p (k:Nat) (ds:List D)
 |q (k:Nat) (ds:List D)
 |w (p k:Nat) (ds:List D)
section
variable {P:Program} {FT:Nat->Option (Fun×Nat)} {O:Nat->List D->Option D}
end
variable {α:Type}
noncomputable section
def JG(k:IntKind):Int:=
 match k with
 |.i8=>256|.i16=>65536|.i32=>4294967296|.i64=>18446744073709551616
 |.u8=>256|.u16=>65536|.u32=>4294967296|.u64=>18446744073709551616
theorem jW(k:IntKind):JG k=2 ^ k.bits:=by cases k<;>rfl
def XH(n h m:Int):Int:=bif decide (n % m>=h)then n % m-m else n % m
def aa(k:IntKind) (n:Int):Int:=
 match k with
 |.i8=>XH n 128 256
 |.i16=>XH n 32768 65536
 |.i32=>XH n 2147483648 4294967296
 |.i64=>XH n 9223372036854775808 18446744073709551616
 |.u8=>n % 256
 |.u16=>n % 65536
 |.u32=>n % 4294967296
 |.u64=>n % 18446744073709551616
theorem eA(k:IntKind) (n:Int):aa k n=k.wrap n:=by
 cases k<;>simp[aa,XH,IntKind.wrap,IntKind.bits,IntKind.signed,cond_eq_ite]
def mG(op:Nat->Nat->Nat) (k:IntKind) (x y:Int):Value:=.int k (aa k (op (x % JG k).toNat (y % JG k).toNat:Nat))
theorem UY(k:IntKind) (x:Int):(BitVec.ofInt k.bits x).toNat=(x % JG k).toNat:=by
 rw[BitVec.toNat_ofInt,jW];norm_cast
def Yh(op:BinOp) (j:IntKind) (a:Int) (k:IntKind) (b:Int):Option Value:=
 match op with
 |.add=>bif decide (j=k)then some (.int j (aa j (a+b)))else none
 |.sub=>bif decide (j=k)then some (.int j (aa j (a-b)))else none
 |.mul=>bif decide (j=k)then some (.int j (aa j (a*b)))else none
 |.eql=>bif decide (j=k)then some (.bool (a==b))else none
 |.neq=>bif decide (j=k)then some (.bool (a !=b))else none
 |.lss=>bif decide (j=k)then some (.bool (decide (a<b)))else none
 |.leq=>bif decide (j=k)then some (.bool (decide (a<=b)))else none
 |.gtr=>bif decide (j=k)then some (.bool (decide (b<a)))else none
 |.geq=>bif decide (j=k)then some (.bool (decide (b<=a)))else none
 |.and=>bif decide (j=k)then some (mG Nat.land j a b)else none
 |.or=>bif decide (j=k)then some (mG Nat.lor j a b)else none
 |.xor=>bif decide (j=k)then some (mG Nat.xor j a b)else none
 |.quo=>bif decide (j=k)&&!decide (b=0)then some (.int j (aa j (a.tdiv b)))else none
 |.rem=>bif decide (j=k)&&!decide (b=0)then some (.int j (a.tmod b))else none
 |.shl=>bif decide (b<0)then none else some (.int j (aa j (a*((2 ^ (min b.toNat j.bits):Nat):Int))))
 |.shr=>bif decide (b<0)then none else some (.int j (a.fdiv ((2 ^ (min b.toNat j.bits):Nat):Int)))
 |op=>Rh (binOp op 0 (.int j a) (.int k b))
theorem binJ_eq(op:BinOp) (j:IntKind) (a:Int) (k:IntKind) (b:Int):Yh op j a k b=Rh (binOp op 0 (.int j a) (.int k b)):=by
 have c:∀{α:Type} (x:String),Rh (stuck x:Sem α)=none:=λ_=>rfl;have f:∀{α:Type} (x:α),Rh (pure x:Sem α)=some x:=λ_=>rfl;have d:∀{α:Type} x,Rh (runtimePanic x:Sem α)=none:=λ_=>rfl;cases op
 case shl=>
  simp only[Yh,binOp,Op.shift,cond_eq_ite,decide_eq_true_eq];split<;>simp[c,f,d,eA]
 case shr=>
  simp only[Yh,binOp,Op.shift,cond_eq_ite,decide_eq_true_eq];split<;>simp[c,f,d]
 all_goals
  by_cases e:j=k
  .subst e;simp[Yh,binOp,Op.intArith,Op.intCmp,Op.intBits,Op.intDiv,c,f,d,eA,mG,UY,jW];(try rfl);(try (split<;>simp[c,f,d,eA, *]))
  .simp[Yh,binOp,e,c]
section
variable {FT:Nat->Option (Fun×Nat)} {O:Nat->List D->Option D}
variable {P:Program}
end
end
variable {P:Program} {N:Nat}
def Ys(r:Option (D×List Ent)) (f:D->List Ent->Prop):Prop:=
 match r with
 |some p=>f p.1 p.2
 |none=>False
@[congr] theorem andT_congr{r a:Option (D×List Ent)} {f:D->List Ent->Prop} (h:r=a):Ys r f=Ys a f:=by rw[h]
theorem tX(d:D) (m:List Ent) (f:D->List Ent->Prop):Ys (some (d,m)) f=f d m:=Caa rfl rfl
theorem Qn(r:Option (D×List Ent)) (f:D->List Ent->Prop):Ys r f↔∃d m',r=some (d,m')/\f d m':=by
 cases r with
 |none=>simp[Ys]
 |some p=>
  obtain⟨d,m⟩:=p;simp only[Ys]
  grind
def Cf(P:Program) (k:Nat) (ds:List D) (m:List Ent) (f:D->List Ent->Prop):Prop:=CallT P k ds m f
@[congr] theorem callX_congr{k a:Nat} {ds ds':List D} {m m':List Ent} {f:D->List Ent->Prop} (h1:k=a) (h2:ds=ds') (h3:m=m'):Cf P k ds m f=Cf P a ds' m' f:=by simp_all
theorem oz{ds:List D}{m:List Ent}(h:CallT P k ds m R) (a:∀d m',R d m'->f d m'):Cf P k ds m f:=h.mono a
theorem mc{ds:List D}{m m1:List Ent}{d1:D}(h:CallT P k ds m λd m'=>d=d1/\m'=m1) (hf:f d1 m1):Cf P k ds m f:=
 h.mono λd m' ⟨h1,h2⟩=>by simp_all
theorem xa.cons{d e:D}{l:List D}(h1:Sub d e) (h2:xa l r):xa (d::l) (e::r):=by
 simp only[xa]
 grind
theorem Sub.sb(d:D):Sub d .dead:=by cases d<;>simp[Sub]
variable {P:Program} {N:Nat}
def gP(p Y N:Prop):Prop:=(p->Y)/\(¬p->N)
theorem gP_T{N:Prop}:gP True Y N=Y:=by simp[gP]
theorem gP_F{N:Prop}:gP False Y N=N:=by simp[gP]
@[congr] theorem gP_congr{p a Y N:Prop} (h:p=a):gP p Y N=gP a Y N:=by rw[h]
theorem gP.mk{N:Prop}(a:p->Y) (h2:¬p->N):gP p Y N:=⟨a,h2⟩
def gB(s:St) (g:Option (Tmp×Bool)) (b:Bool):St:=
 match g with
 |none=>s
 |some (t,_)=>
  match s.t.getD t .dead with
  |.v (.bool _)=>{ s with t:=s.t.set t (.v (.bool b)) }
  |_=>s
theorem MF{l:List D}{t:Nat}{d:D}(h:l.getD t .dead=d) (hd:d≠.dead):l.set t d=l:=by
 apply xac
 grind
theorem wW{s:St}{c b:Bool}(hg:gate s g=some (some (c,b))) (e:c=b):gB s g b=s:=by
 unfold gB
 cases g with
 |none=>rfl
 |some p=>
  obtain⟨t,b'⟩:=p;simp only;split
  all_goals simp_all[gate,MF]
theorem H7{s:St}{c b:Bool}(a:gate s g=some (some (c,b))) (e:c≠b):gB s g (!b)=s:=by
 unfold gB
 cases g with
 |none=>rfl
 |some p=>
  obtain⟨t,d⟩:=p;simp only;split
  .rename_i x hx;simp only[gate,hx]at a;injection a with a;injection a with a;injection a with f h2;subst f h2;have:x = !d:=by cases x<;>cases d<;>simp_all
   simp_all[MF]
  .rfl
def KO(R:St->Prop) (s:St) (dst:Option Tmp) (d:D) (m':List Ent):Prop:=R ({ s with m:=m' }.put dst d)
def Oi(P:Program):List RI->(St->Prop)->St->Prop
 |[],K,s=>K s
 |.op dst g i::l,K,s=>
  match gate s g with
  |none=>False
  |some none=>Ys (fa s i) (KO (Oi P l K) s dst)
  |some (some (c,b))=>gP (c=b) (Ys (fa (gB s g b) i) (KO (Oi P l K) (gB s g b) dst)) (Oi P l K ((gB s g (!b)).put dst (.v undef)))
 |.call dst g f args::l,K,s=>
  match s.ec f with
  |.fn k first caps=>
   match gate s g with
   |none=>False
   |some none=>Cf P k (first++args.map s.ev++caps) s.m (KO (Oi P l K) s dst)
   |some (some (c,b))=>gP (c=b) (Cf P k (first++args.map (gB s g b).ev++caps) s.m (KO (Oi P l K) (gB s g b) dst)) (Oi P l K ((gB s g (!b)).put dst (.v undef)))
  |_=>False
theorem mw:∀{l:List RI}{K:St->Prop}{s:St},Oi P l K s->Rl P l K s
 |[],K,s,h=>h
 |.op dst g i::l,K,s,h=>by
  simp only[Oi]at h;simp only[Rl];split at h
  .simp_all
  .rename_i a;rw[a];obtain⟨d,m',j,h2⟩:=(Qn _ _).1 h;exact⟨d,m',j,mw h2⟩
  .rename_i c b a;rw[a];refine⟨λe=>?_,λe=>?_⟩
   .have h:=h.1 e;rw[wW a e]at h;obtain⟨d,m',j,h2⟩:=(Qn _ _).1 h;exact⟨d,m',j,mw h2⟩
   .have h:=h.2 e;rw[H7 a e]at h;exact mw h
 |.call dst g f args::l,K,s,h=>by
  simp only[Oi]at h;simp only[Rl];split at h
  .rename_i k first caps hf
   rw[hf];split at h
   .simp_all
   .rename_i a;rw[a];exact h.mono λ_ _ h2=>mw h2
   .rename_i c b a;rw[a];refine⟨λe=>?_,λe=>?_⟩
    .have h:=h.1 e;rw[wW a e]at h;exact h.mono λ_ _ h2=>mw h2
    .have h:=h.2 e;rw[H7 a e]at h;exact mw h
  simp_all
def fA(P:Program):Nat->List RI->(St->Prop)->St->Prop
 |0,l,K,s=>Oi P l K s
 |_+1,[],_,_=>False
 |q+1,.op dst g i::l,K,s=>
  match gate s g with
  |none=>False
  |some none=>Ys (fa s i) (KO (fA P q l K) s dst)
  |some (some (c,b))=>gP (c=b) (Ys (fa s i) (KO (fA P q l K) s dst)) (fA P q l K (s.put dst (.v undef)))
 |q+1,.call dst g f args::l,K,s=>
  match s.cv f with
  |.fn k first caps=>
   match gate s g with
   |none=>False
   |some none=>∃d,(∀m,CallT P k (first++args.map s.ev++caps) m λd' m'=>d'=d/\m'=m)/\fA P q l K (s.put dst d)
   |some (some (c,b))=>(c=b->∃d,(∀m,CallT P k (first++args.map s.ev++caps) m λd' m'=>d'=d/\m'=m)/\fA P q l K (s.put dst d))/\(c≠b->fA P q l K (s.put dst (.v undef)))
  |_=>False
theorem AJ:∀{q:Nat}{l:List RI}{K:St->Prop}{s:St},fA P q l K s->zP P q l K s
 |0,l,K,s,h=>by simp only[fA]at h;simp only[zP];exact mw h
 |_+1,[],K,s,h=>by simp only[fA]at h
 |q+1,.op dst g i::l,K,s,h=>by
  simp only[fA]at h;simp only[zP];split at h
  .simp_all
  .rename_i j;rw[j];obtain⟨d,m',a,h2⟩:=(Qn _ _).1 h;exact⟨d,m',a,AJ h2⟩
  .rename_i c b j;rw[j];refine⟨λe=>?_,λe=>AJ (h.2 e)⟩;obtain⟨d,m',a,h2⟩:=(Qn _ _).1 (h.1 e);exact⟨d,m',a,AJ h2⟩
 |q+1,.call dst g f args::l,K,s,h=>by
  simp only[fA]at h;simp only[zP];split at h
  .rename_i k first caps hf
   rw[hf];split at h
   .simp_all
   .rename_i j;rw[j];obtain⟨d,a,h2⟩:=h;exact⟨d,a,AJ h2⟩
   .rename_i c b j;rw[j];refine⟨λe=>?_,λe=>AJ (h.2 e)⟩;obtain⟨d,a,h2⟩:=h.1 e;exact⟨d,a,AJ h2⟩
  simp_all
def C.TI:C->Bool
 |.loop _=>true
 |.any ..=>true
 |.seq a b=>a.TI || b.TI
 |.cond _ a b=>a.TI || b.TI
 |.block _ a=>a.TI
 |_=>false
def C.vn:C->Bool
 |.loop _=>true
 |_=>false
theorem EX{f:FuncId}{ds:List D}{m:List Ent}(a:xa ds ds') (h:CallT P f ds' m R):CallT P f ds m R:=
 ⟨h.1,λG w vs hv hi=>h.2 G w vs (a.rel hv) hi⟩
def KS(P:Program) (N:Nat) (b:C) (K:Exit->St->Prop) (e:Exit) (s':St):Prop:=match e with|.normal=>Tm.T P N b K s'|e=>K e s'
theorem pX{b:C}{K:Exit->St->Prop}{s:St}:KS P N b K .normal s=Tm.T P N b K s:=Caa rfl rfl
theorem KS_exit{b:C}{K:Exit->St->Prop}{s:St}:KS P N b K (.exit i) s=K (.exit i) s:=Caa rfl rfl
theorem KS_ret{b:C}{K:Exit->St->Prop}{s:St}:KS P N b K .ret s=K .ret s:=Caa rfl rfl
def KZ(R:St->Prop) (K:Exit->St->Prop) (e:Exit) (s':St):Prop:=match e with|.normal=>R s'|e=>K e s'
def KB(id:Nat) (K:Exit->St->Prop) (e:Exit) (s':St):Prop:=match e with|.exit a=>if a=id then K .normal s' else K (.exit a) s'|e=>K e s'
theorem oX{K:Exit->St->Prop}{s:St}:KB id K .normal s=K .normal s:=Caa rfl rfl
theorem KB_exit{K:Exit->St->Prop}{s:St}:KB id K (.exit i) s=if i=id then K .normal s else K (.exit i) s:=Caa rfl rfl
theorem KB_ret{K:Exit->St->Prop}{s:St}:KB id K .ret s=K .ret s:=Caa rfl rfl
@[congr] theorem T_congr{c:C} {K:Exit->St->Prop} {s s':St} (h:s=s'):Tm.T P N c K s=Tm.T P N c K s':=by rw[h]
def Z(P:Program) (N:Nat):C->(Exit->St->Prop)->St->Prop
 |.skip,K,s=>K .normal s
 |.IS l,K,s=>Oi P l (K .normal) s
 |.draw q l,K,s=>fA P q l (K .normal) s
 |.any cuts q bs l,K,s=>T P N (.any cuts q bs l) K s
 |.seq a b,K,s=>
  match a.TI with
  |true=>Z P N a (KS P N b K) s
  |false=>Z P N a (KZ (Z P N b K) K) s
 |.cond c a b,K,s=>
  match s.ev c with
  |.v (.bool t)=>gP (t=true) (Z P N a K s) (Z P N b K s)
  |_=>False
 |.block id a,K,s=>
  match a.vn with
  |true=>T P N (.block id a) K s
  |false=>Z P N a (KB id K) s
 |.loop a,K,s=>T P N (.loop a) K s
 |.exit id,K,s=>K (.exit id) s
 |.ret,K,s=>K .ret s
 |.stuck,_,_=>False
theorem Z.T(hm:P.follows .mixedOrders=true):∀{c:C}{K:Exit->St->Prop}{s:St},Z P N c K s->T P N c K s
 |.skip,K,s,h=>T.skip h
 |.IS l,K,s,h=>T.IS (mw h)
 |.draw q l,K,s,h=>T.draw hm (AJ h)
 |.any cuts q bs l,K,s,h=>h
 |.seq a b,K,s,h=>by
  simp only[Z]at h;split at h
  .refine T.seq ((Z.T hm h).mono ?_);intro e s' d;cases e<;>exact d
  .refine T.seq ((Z.T hm h).mono ?_);intro e s' d
   cases e with
   |normal=>exact Z.T hm d
   |_=>exact d
 |.cond c a b,K,s,h=>by
  simp only[Z]at h;split at h
  .rename_i t ht;exact T.cond ht (λe=>Z.T hm (h.1 e)) (λe=>Z.T hm (h.2 (by simp[e])))
  .exact h.elim
 |.block id a,K,s,h=>by
  simp only[Z]at h;split at h
  .exact h
  .exact T.block ((Z.T hm h).mono λe s' d=>by cases e<;>exact d)
 |.loop a,K,s,h=>h
 |.exit id,K,s,h=>T.exit h
 |.ret,K,s,h=>T.ret h
 |.stuck,_,_,h=>by simp only[Z]at h
section
variable {l:List RI} {K:St->Prop} {s:St} {dst:Option Tmp} {i:I} {q:Nat} {f:Cal} {args:List Operand} {g:Tmp×Bool}
theorem T2:Oi P [] K s=K s:=Caa rfl rfl
theorem iV:Oi P (.op dst none i::l) K s=Ys (fa s i) (KO (Oi P l K) s dst):=Caa rfl rfl
theorem V2:Oi P (.op dst (some g) i::l) K s =
 match gate s (some g)with
 |none=>False
 |some none=>Ys (fa s i) (KO (Oi P l K) s dst)
 |some (some (c,b))=>gP (c=b) (Ys (fa (gB s (some g) b) i) (KO (Oi P l K) (gB s (some g) b) dst)) (Oi P l K ((gB s (some g) (!b)).put dst (.v undef))):=Caa rfl rfl
theorem rX{k:FuncId}{first caps:List D}(hf:s.ec f=.fn k first caps):Oi P (.call dst none f args::l) K s=Cf P k (first++args.map s.ev++caps) s.m (KO (Oi P l K) s dst):=by
 simp only[Oi,hf,gate]
theorem fJ{k:FuncId}:Oi P (.call dst none (.func k) args::l) K s=Cf P k (args.map s.ev) s.m (KO (Oi P l K) s dst):=by
 rw[rX (k:=k) (first:=[]) (caps:=[]) rfl,qab,eab]
theorem DP{k:FuncId}:Oi P (.call dst (some g) (.func k) args::l) K s =
 match gate s (some g)with
 |none=>False
 |some none=>Cf P k (args.map s.ev) s.m (KO (Oi P l K) s dst)
 |some (some (c,b))=>gP (c=b) (Cf P k (args.map (gB s (some g) b).ev) s.m (KO (Oi P l K) (gB s (some g) b) dst)) (Oi P l K ((gB s (some g) (!b)).put dst (.v undef))):=by
 simp only[Oi,St.ec,St.ev,qab,eab]
theorem Y1:fA P 0 l K s=Oi P l K s:=by simp only[fA]
theorem X1:fA P (q+1) (.op dst none i::l) K s=Ys (fa s i) (KO (fA P q l K) s dst):=Caa rfl rfl
theorem DrX_opg:fA P (q+1) (.op dst (some g) i::l) K s =
 match gate s (some g)with
 |none=>False
 |some none=>Ys (fa s i) (KO (fA P q l K) s dst)
 |some (some (c,b))=>gP (c=b) (Ys (fa s i) (KO (fA P q l K) s dst)) (fA P q l K (s.put dst (.v undef))):=Caa rfl rfl
def EM(P:Program) (k:FuncId) (ds:List D) (R:St->Prop) (s:St) (dst:Option Tmp):Prop:=∃d,(∀m,CallT P k ds m λd' m'=>d'=d/\m'=m)/\R (s.put dst d)
theorem tM{k:FuncId}:fA P (q+1) (.call dst none (.func k) args::l) K s=EM P k (args.map s.ev) (fA P q l K) s dst:=by
 simp only[fA,St.cv,St.ev,qab,eab,EM,gate]
theorem RS{k:FuncId}:fA P (q+1) (.call dst (some g) (.func k) args::l) K s =
 match gate s (some g)with
 |none=>False
 |some none=>EM P k (args.map s.ev) (fA P q l K) s dst
 |some (some (c,b))=>gP (c=b) (EM P k (args.map s.ev) (fA P q l K) s dst) (fA P q l K (s.put dst (.v undef))):=by
 simp only[fA,St.cv,St.ev,qab,eab,EM,gP]
variable {K':Exit->St->Prop} {a b:C} {c:Operand} {id:Nat} {cuts:List Nat} {bs:List (List Nat)}
theorem zp:Z P N .skip K' s=K' .normal s:=Caa rfl rfl
theorem xv:Z P N (.IS l) K' s=Oi P l (K' .normal) s:=Caa rfl rfl
theorem tp:Z P N (.draw q l) K' s=fA P q l (K' .normal) s:=Caa rfl rfl
theorem wv:Z P N (.any cuts q bs l) K' s=Tm.T P N (.any cuts q bs l) K' s:=Caa rfl rfl
def KZb(P:Program) (N:Nat) (b:C) (K':Exit->St->Prop):Exit->St->Prop:=KZ (Z P N b K') K'
theorem od:KZb P N b K' .normal s=Z P N b K' s:=Caa rfl rfl
theorem lh:KZb P N b K' (.exit id) s=K' (.exit id) s:=Caa rfl rfl
theorem ck:KZb P N b K' .ret s=K' .ret s:=Caa rfl rfl
theorem zv:Z P N (.seq a b) K' s=match a.TI with
 |true=>Z P N a (KS P N b K') s
 |false=>Z P N a (KZb P N b K') s:=Caa rfl rfl
theorem rp:Z P N (.cond c a b) K' s=match s.ev c with
 |.v (.bool t)=>gP (t=true) (Z P N a K' s) (Z P N b K' s)
 |_=>False:=Caa rfl rfl
theorem fk:Z P N (.block id a) K' s=match a.vn with
 |true=>Tm.T P N (.block id a) K' s
 |false=>Z P N a (KB id K') s:=Caa rfl rfl
theorem yp:Z P N (.loop a) K' s=Tm.T P N (.loop a) K' s:=Caa rfl rfl
theorem xp:Z P N (.exit id) K' s=K' (.exit id) s:=Caa rfl rfl
theorem yv:Z P N .ret K' s=K' .ret s:=Caa rfl rfl
end
def At(s' S:St):Prop:=xa s'.t S.t/\∃g,s'.m=S.m++g
theorem At.mk(t t':List D) (m g:List Ent) (h:xa t t'):At ⟨t,m++g⟩ ⟨t',m⟩:=⟨h,g,rfl⟩
theorem At.same(t t':List D) (m:List Ent) (h:xa t t'):At ⟨t,m⟩ ⟨t',m⟩:=⟨h,[],by simp⟩
def Fit(N:Nat) (s:St):Prop:=N<=s.m.length/\belows s.m.length s.t=true/\s.m.all (Ent.below s.m.length)=true
theorem Sub.inv{a b:D}(h:Sub a b):b=.dead\/(∃S,a=.v (.slice none 0 0)/\b=.sl S [])\/(∃l r,a=.agg l/\b=.agg r/\xa l r)\/(∃l r,a=.tup l/\b=.tup r/\xa l r)\/(∃S l r,a=.sl S l/\b=.sl S r/\xa l r)\/a=b:=by
 cases b with
 |dead=>simp
 |v x=>cases a<;>simp_all[Sub]
 |agg r=>cases a<;>simp_all[Sub]
 |tup r=>cases a<;>simp_all[Sub]
 |sl S r=>
  cases a with
  |sl S' l=>simp only[Sub]at h;grind
  |_=>simp_all[Sub]
 |pt x=>cases a<;>simp_all[Sub]
 |ref _ _ _ _=>cases a<;>simp_all[Sub]
 |own _ _=>cases a<;>simp_all[Sub]
 |view _ _ _ _=>cases a<;>simp_all[Sub]
 |fn _ _ _=>cases a<;>simp_all[Sub]
 |mp _=>cases a<;>simp_all[Sub]
 |ifc _ _=>cases a<;>simp_all[Sub]
mutual
theorem Sub.trans:∀{a b c:D},Sub a b->Sub b c->Sub a c
 |a,.dead,c,d,h2=>by
  rcases h2.inv with rfl|⟨_,h,_⟩|⟨_,_,h,_⟩|⟨_,_,h,_⟩|⟨_,_,_,h,_⟩|rfl
  .exact Sub.sb _
  .cases h
  .cases h
  .cases h
  .cases h
  .exact Sub.sb _
 |a,.agg r,c,d,h2=>by
  rcases d.inv with h|⟨_,_,h⟩|⟨l,j,rfl,h,g⟩|⟨_,_,_,h,_⟩|⟨_,_,_,_,h,_⟩|rfl
  .cases h
  .cases h
  .injection h with h;subst h;rcases h2.inv with rfl|⟨_,h,_⟩|⟨j,q,h,rfl,e⟩|⟨_,_,h,_⟩|⟨_,_,_,h,_⟩|rfl
   .exact Sub.sb _
   .cases h
   .injection h with h;subst h;simp only[Sub];exact xa.trans g e
   .cases h
   .cases h
   .exact d
  .cases h
  .cases h
  .exact h2
 |a,.tup r,c,d,h2=>by
  rcases d.inv with h|⟨_,_,h⟩|⟨_,_,_,h,_⟩|⟨l,j,rfl,h,g⟩|⟨_,_,_,_,h,_⟩|rfl
  .cases h
  .cases h
  .cases h
  .injection h with h;subst h;rcases h2.inv with rfl|⟨_,h,_⟩|⟨_,_,h,_⟩|⟨j,q,h,rfl,e⟩|⟨_,_,_,h,_⟩|rfl
   .exact Sub.sb _
   .cases h
   .cases h
   .injection h with h;subst h;simp only[Sub];exact xa.trans g e
   .cases h
   .exact d
  .cases h
  .exact h2
 |a,.sl S r,c,d,h2=>by
  rcases h2.inv with rfl|⟨_,h,_⟩|⟨_,_,h,_⟩|⟨_,_,h,_⟩|⟨S',l',q,h,rfl,e⟩|rfl
  .exact Sub.sb _
  .cases h
  .cases h
  .cases h
  .injection h with i f;subst i;subst f;rcases d.inv with h|⟨_,rfl,h⟩|⟨_,_,_,h,_⟩|⟨_,_,_,h,_⟩|⟨_,l,_,rfl,h,g⟩|rfl
   .cases h
   .injection h with i f;subst f;simp only[xa]at e;subst e;simp[Sub]
   .cases h
   .cases h
   .injection h with i f;subst i;subst f;simp only[Sub,true_and];exact xa.trans g e
   .exact h2
  .exact d
 |a,.v x,c,d,h2=>by
  rcases d.inv with h|⟨_,_,h⟩|⟨_,_,_,h,_⟩|⟨_,_,_,h,_⟩|⟨_,_,_,_,h,_⟩|rfl<;>first|cases h|exact h2
 |a,.pt x,c,d,h2=>by
  rcases d.inv with h|⟨_,_,h⟩|⟨_,_,_,h,_⟩|⟨_,_,_,h,_⟩|⟨_,_,_,_,h,_⟩|rfl<;>first|cases h|exact h2
 |a,.ref _ _ _ _,c,d,h2=>by
  rcases d.inv with h|⟨_,_,h⟩|⟨_,_,_,h,_⟩|⟨_,_,_,h,_⟩|⟨_,_,_,_,h,_⟩|rfl<;>first|cases h|exact h2
 |a,.own _ _,c,d,h2=>by
  rcases d.inv with h|⟨_,_,h⟩|⟨_,_,_,h,_⟩|⟨_,_,_,h,_⟩|⟨_,_,_,_,h,_⟩|rfl<;>first|cases h|exact h2
 |a,.view _ _ _ _,c,d,h2=>by
  rcases d.inv with h|⟨_,_,h⟩|⟨_,_,_,h,_⟩|⟨_,_,_,h,_⟩|⟨_,_,_,_,h,_⟩|rfl<;>first|cases h|exact h2
 |a,.fn _ _ _,c,d,h2=>by
  rcases d.inv with h|⟨_,_,h⟩|⟨_,_,_,h,_⟩|⟨_,_,_,h,_⟩|⟨_,_,_,_,h,_⟩|rfl<;>first|cases h|exact h2
 |a,.mp _,c,d,h2=>by
  rcases d.inv with h|⟨_,_,h⟩|⟨_,_,_,h,_⟩|⟨_,_,_,h,_⟩|⟨_,_,_,_,h,_⟩|rfl<;>first|cases h|exact h2
 |a,.ifc _ _,c,d,h2=>by
  rcases d.inv with h|⟨_,_,h⟩|⟨_,_,_,h,_⟩|⟨_,_,_,h,_⟩|⟨_,_,_,_,h,_⟩|rfl<;>first|cases h|exact h2
theorem xa.trans:∀{a b c:List D},xa a b->xa b c->xa a c
 |[],b,c,f,h2=>by simp only[xa]at f;subst f;exact h2
 |d::a,b,c,f,h2=>by
  simp only[xa]at f;obtain⟨e,r,rfl,g,h⟩:=f;simp only[xa]at h2;obtain⟨e',r',rfl,k3,k4⟩:=h2;exact xa.cons (Sub.trans g k3) (xa.trans h k4)
end
theorem At.trans{a b c:St}(d:At a b) (h2:At b c):At a c:=by
 obtain⟨d,g,k1⟩:=d;obtain⟨h2,e,k2⟩:=h2;exact⟨d.trans h2,e++g,by simp_all⟩
def VS(N:Nat) (K:Exit->St->Prop):Prop:=∀s s',At s' s->Fit N s->K .normal s->K .normal s'
theorem KP{s S:St}(J:At s S) (hb:Fit N S):∀(G:Gh) (w:World) (a:Act),N<=G.n->Rel G w a s->∃G',Rel G' w a S/\StepN N G w s.m G' w S.m:=by
 intro G w a hN' d;obtain⟨E,g,h2⟩:=J;obtain⟨hN,ht,z⟩:=hb;have v:S.m=s.m.take S.m.length:=by simp_all
 have hk:S.m.length<=s.m.length:=by grind
 have hm:(s.m.take S.m.length).all (Ent.below S.m.length)=true:=by grind
 have hr:Rel G w a ⟨S.t,s.m⟩:=⟨E.rel d.t,d.inv,d.defers⟩;generalize r:S.m.length=k at *;obtain⟨St,Sm⟩:=S;simp only at v ht r hr;subst v;clear d h2 r z;have hi:=hr.inv;have c:∀(i:Nat) e,(s.m.take k)[i]?=some e->i<k/\s.m[i]?=some e:=by
  grind
 have q:Inv (G.trim k) w (s.m.take k):=by
  refine⟨by grind[Gh.trim],hi.F,λi e he=>?_,λi j e e' he x hl y b hb o=>hi.apart i j e e' (c i e he).2 (c j e' x).2 hl y b hb o,hi.gl.bare λ_ h=>h⟩;have hbe:e.below k=true:=fab.1 hm e (List.mem_of_getElem? he);have f:=hi.ent i e (c i e he).2
  cases e with
  |live S Oa l=>
   obtain⟨a1,a2,a3,a4,a5⟩:=f;refine⟨a1,a2,a3,a4,?_⟩;rcases a5 with a5|⟨B,cs,T,o,I,p,A,u⟩
   .exact .inl a5
   .exact .inr ⟨B,cs,T,o,I,p,A,u.trim (by grind[Ent.below])⟩
  |mp es=>
   obtain⟨a1,b,D,C,a2,a3,a4,a5⟩:=f;exact⟨a1,b,D,C,a2,a3,a4,a5.trim (by grind[Ent.below])⟩
  |gone=>trivial
 refine⟨G.trim k,⟨hr.t.trim ht,q,hr.defers⟩,⟨λ_ h=>h,λ_ _=>rfl,hN,λi hi'=>.inl ⟨rfl,rfl,rfl,rfl,rfl⟩,rfl,rfl,rfl,Paa _,λ_ _ _=>rfl,λ_ _ h=>.inl h,?_⟩⟩;rintro b hb ⟨i,e,he,hl,H⟩;exact⟨i,e,(c i e he).2,hl,H⟩
def yP(N:Nat) (K:Exit->St->Prop) (e:Exit) (s:St):Prop:=∀(G:Gh) (w:World) (a:Act),N<=G.n->Rel G w a s->∃s' G',K e s'/\Rel G' w a s'/\StepN N G w s.m G' w s'.m
theorem yP.of{K:Exit->St->Prop}{e:Exit}{s:St}(h:K e s):yP N K e s:=λG w a hN hr=>⟨s,G,h,hr,StepN.refl _ _ _ hN⟩
theorem T.D4{c:C}{K:Exit->St->Prop}{s:St}(h:Tm.T P N c (yP N K) s):Tm.T P N c K s:=by
 intro code hc G w a hN hr;refine Code.wp_mono ?_ (h code hc G w a hN hr);rintro e a' w' ⟨s',G',i,f,b⟩;obtain⟨g,d,j,k,k3⟩:=i G' w' a' b.n f;exact⟨g,d,j,k,b.trans k3⟩
theorem stab_C{K:Exit->St->Prop}:VS N (yP N K):=by
 intro s s' e h2 f G w a hN hr;obtain⟨G',g,d⟩:=KP e h2 G w a hN hr;obtain⟨c,b,m1,m2,m3⟩:=f G' w a d.n g;exact⟨c,b,m1,m2,d.trans m3⟩
theorem T.at{c:C}{K:Exit->St->Prop}{s S:St}(e:At s S) (hb:Fit N S) (h:Tm.T P N c K S):Tm.T P N c K s:=by
 obtain⟨d,g,h2⟩:=e;obtain⟨a,b,b3⟩:=hb;refine T.sub S.t d ?_;refine T.trim S.m.length a (by grind) b (by simp_all) ?_
 simp_all
theorem T.S9{a b:C}{K:Exit->St->Prop}{s:St}(h:Tm.T P N a (KS P N b K) s):Tm.T P N (.seq a b) K s:=T.seq (h.mono λe s' c=>by cases e<;>exact c)
theorem oC{b:C}{K:Exit->St->Prop}:VS N (KS P N b K):=λs s' a h2 c=>T.at a h2 c
theorem stab_B{K:Exit->St->Prop}(h:VS N K):VS N (KB id K):=h
def KM{X:Type}(id:Nat) (K:Exit->St->Prop) (S:X->St) (Lu fin:X->Prop) (μ:X->Nat) (y:X) (e:Exit) (s':St):Prop:=
 match e with|.normal=>∃z,Lu z/\μ z<μ y/\At s' (S z)|.exit j=>if j=id then(∃z,fin z/\At s' (S z))else K (.exit j) s'|e=>K e s'
section
variable {X:Type} {id:Nat} {K:Exit->St->Prop} {S:X->St} {Lu fin:X->Prop} {μ:X->Nat} {y:X} {s':St}
theorem vq:KM id K S Lu fin μ y .normal s' = ∃z,Lu z/\μ z<μ y/\At s' (S z):=Caa rfl rfl
theorem Ws:KM id K S Lu fin μ y (.exit j) s'=if j=id then(∃z,fin z/\At s' (S z))else K (.exit j) s':=Caa rfl rfl
end
def KI(id n:Nat) (K:Exit->St->Prop) (S:Nat->St) (i:Nat) (e:Exit) (s':St):Prop:=
 match e with|.normal=>i<n/\At s' (S (i+1))|.exit j=>if j=id then i=n/\At s' (S n)else K (.exit j) s'|e=>K e s'
section
variable {id n i:Nat} {K:Exit->St->Prop} {S:Nat->St} {s':St}
theorem Uw:KI id n K S i .normal s'=(i<n/\At s' (S (i+1))):=Caa rfl rfl
theorem FI:KI id n K S i (.exit j) s'=if j=id then i=n/\At s' (S n)else K (.exit j) s':=Caa rfl rfl
end
theorem stab_M{K:Exit->St->Prop}{S:X->St}{Lu fin:X->Prop}{μ:X->Nat}{y:X}:VS N (KM id K S Lu fin μ y):=by
 rintro s s' a - ⟨z,b,c,k3⟩;exact⟨z,b,c,a.trans k3⟩
theorem T.NP{x:C}{K:Exit->St->Prop}{s:St}(S:X->St) (Lu fin:X->Prop) (μ:X->Nat) (x₀:X) (d:Lu x₀) (g:At s (S x₀))
 (hb:∀y,Lu y\/fin y->Fit N (S y))
 (round:∀y,Lu y->Tm.T P N x (KM id K S Lu fin μ y) (S y))
 (a:(∃z,fin z)->VS N K) (rest:∀z,fin z->K .normal (S z)):Tm.T P N (.block id (.loop x)) K s:=by
 refine T.at g (hb x₀ (.inl d)) ?_;refine T.block (T.loopS S Lu μ x₀ d (xa.Dc _) rfl (λy b=>hb y (.inl b)) λy b=>(round y b).mono ?_);intro e s' h
 cases e with
 |normal=>obtain⟨z,f,h2,h3,h4⟩:=h;grind
 |exit j=>
  simp only[Ws]at h⊢;split at h
  .rename_i hj;rw[if_pos hj];obtain⟨z,c,f⟩:=h;exact a ⟨z,c⟩ (S z) s' f (hb z (.inr c)) (rest z c)
  simp_all
 |_=>exact h
theorem T.blkI{x:C}{K:Exit->St->Prop}{s:St}(n:Nat) (S:Nat->St) (b:At s (S 0)) (hb:∀i,i<=n->Fit N (S i))
 (round:∀i,i<=n->Tm.T P N x (KI id n K S i) (S i))
 (a:VS N K) (rest:K .normal (S n)):Tm.T P N (.block id (.loop x)) K s:=by
 refine T.NP (X:=Nat) S (λi=>i<=n) (λi=>i=n) (λi=>n-i) 0 (pab _) b (λy hy=>hb y (by omega)) (λi hi=>(round i hi).mono ?_) (λ_=>a) (λz hz=>by simp_all);intro e s' h
 cases e with
 |normal=>
  simp only[Uw]at h;exact⟨i+1,h.1,by grind,h.2⟩
 |exit j=>
  simp only[FI,Ws]at h⊢
  grind
 |_=>exact h
theorem tupD_one(d:D):Zq [d]=d:=Caa rfl rfl
theorem tupD_nil:Zq []=.tup []:=Caa rfl rfl
theorem tupD_two(d e:D) (l:List D):Zq (d::e::l)=.tup (d::e::l):=Caa rfl rfl
theorem G3{c:Prop} [Decidable c] (p:D×List Ent) (f:D->List Ent->Prop):Ys (if c then some p else none) f=(c/\f p.1 p.2):=by
 by_cases h:c<;>simp[h,Ys]
theorem map_ite{α β:Type}{c:Prop} [Decidable c] (a:α) (g:α->β):(if c then some a else none:Option α).map g=if c then some (g a)else none:=by
 simp
theorem Rx{n:Int}(h:-9223372036854775808<=n/\n<=9223372036854775807):aa .i64 n=n:=by
 grind[eA,IntKind.wrap_i64]
theorem fdivN(a b:Nat):Int.fdiv (a:Int) (b:Int)=((a / b:Nat):Int):=(Int.fdiv_eq_ediv_of_nonneg _ (by omega)).trans (by omega)
section
variable {k:Nat} {m:List Ent} {id Oa S lo n:Nat} {l:List D}
end
theorem wrapU64{n:Int}(h:0<=n/\n<18446744073709551616):aa .u64 n=n:=by grind[aa]
theorem td(h:k<18446744073709551616):aa .u64 (k:Int)=(k:Int):=wrapU64 (by omega)
theorem V3:((0:Nat):Int)=0:=Caa rfl rfl
theorem Jt(b:Bool):Rh (Op.unary .not (.bool b))=some (.bool (!b)):=Caa rfl rfl
theorem kN(a b:Nat):((a:Int)<(b:Int))↔a<b:=by omega
theorem belowsA{a b:List D}(ha:belows k a=true) (hb:belows k b=true):belows k (a++b)=true:=by
 induction a with
 |nil=>grind
 |cons d a ih=>
  simp_all[belows]
theorem r6{a b:List D}(ha:oa a=true) (hb:oa b=true):oa (a++b)=true:=by
 grind[zk]
theorem neg_int(k:IntKind) (n:Int):Rh (Op.unary .neg (.int k n))=some (.int k (aa k (-n))):=by
 show some (Value.int k (k.wrap (0-n)))=_
 grind[eA]
theorem max_int(k:IntKind) (a b:Int):Rh (Builtin.max_ #[] 0 [Value.int k a,Value.int k b].toArray)=some (.int k (max a b)):=by
 simp only[Builtin.max_,Rh,faf,bind_pure,Builtin.max2];by_cases h:a<b
 .rw[if_pos h,Int.max_eq_right (by omega)];rfl
 .rw[if_neg h,Int.max_eq_left (by omega)];rfl
theorem min_int(k:IntKind) (a b:Int):Rh (Builtin.min_ #[] 0 [Value.int k a,Value.int k b].toArray)=some (.int k (min a b)):=by
 simp only[Builtin.min_,Rh,faf,bind_pure,Builtin.min2];by_cases h:b<a
 .rw[if_pos h,Int.min_eq_right (by omega)];rfl
 .rw[if_neg h,Int.min_eq_left (by omega)];rfl
section
variable {α:Type} {l b c:List α} {a a' x:α}
end
open Go.RowKit (Below)
open Go.WideShapes
inductive Sh where
 |bool
 |int (k:IntKind)
 |str
 |sl (S B:Nat) (A:Bool) (e:Sh)
 |cat (l:List Sh)
def aggT(P:Program) (t:TypeId):Bool:=
 match P.underlying t with
 |some (.struct _)=>true
 |some (.array _ _)=>true
 |_=>false
def aw(f:TypeId->Option Sh) (P:Program):List Field->Nat->Option (List Sh×Nat)
 |[],off=>some ([],off)
 |g::gs,off=>
  if g.offset=off then
   match f g.type,aw f P gs (off+P.cellsOf g.type)with
   |some s,some (l,e)=>some (s::l,e)
   |_,_=>none
  else none
def shOf(P:Program):Nat->TypeId->Option Sh
 |0,_=>none
 |n+1,t=>
  match P.underlying t with
  |some .bool=>some .bool
  |some (.int k)=>some (.int k)
  |some .string=>some .str
  |some (.slice e)=>if 0<P.cellsOf e/\0<P.bytesOf e then(shOf P n e).map λs=>.sl (P.cellsOf e) (P.bytesOf e) (aggT P e) s else none
  |some (.struct fs)=>
   match aw (shOf P n) P fs.toList 0 with
   |some (l,e)=>if e=P.cellsOf t then some (.cat l)else none
   |none=>none
  |some (.array k e)=>if P.cellsOf t=k*P.cellsOf e then(shOf P n e).map λs=>.cat (Daa k s)else none
  |_=>none
def uu(A:Bool) (cs:List D):D:=bif A then .agg cs else cs.headD .dead
mutual
def ep:Sh->List D->Prop
 |.bool,ds=>∃b,ds=[.v (.bool b)]
 |.int k,ds=>∃n,ds=[.v (.int k n)]/\(Lit.int k n).wf=true
 |.str,ds=>∃s:ByteArray,ds=[.v (.string s)]/\s.size<=maxLen
 |.sl S B A e,ds=>∃l,ds=[.sl S l]/\l.length*B<=140737488355328/\∀d∈l,∃cs,ep e cs/\d=uu A cs
 |.cat l,ds=>cy l ds
def cy:List Sh->List D->Prop
 |[],ds=>ds=[]
 |s::l,ds=>∃a b,ds=a++b/\ep s a/\cy l b
end
theorem lH{G:Gh}{w:World}:∀{a b:List D}{us vs:List Value},VsRel G w a us->VsRel G w b vs->VsRel G w (a++b) (us++vs)
 |[],b,us,vs,c,h2=>by simp only[VsRel]at c;simp_all
 |d::a,b,us,vs,c,h2=>by
  simp only[VsRel]at c;obtain⟨u,r,rfl,e,f⟩:=c;simp only[Waa,VsRel];exact⟨u,_,rfl,e,lH f h2⟩
theorem TH{f:TypeId->Option Sh}{P:Program}:∀{fs:List Field}{off:Nat}{l:List Sh}{e:Nat},aw f P fs off=some (l,e)->off<=e
 |[],off,l,e,h=>by grind[aw]
 |g::gs,off,l,e,h=>by
  simp only[aw]at h;split at h
  .split at h
   .rename_i s l' e' h1 h2;simp at h;have:=TH h2;omega
   .cases h
  .cases h
def R0(w:World):Gh:=Gh.bare λb=>b<w.heap.size
theorem UP{a:Addr}{v:Value}(h:w.cell? a=some v):a.block<w.heap.size:=by
 grind[World.cell?]
section
variable {H:Type} {enc:TypeId×Value->H} {P:Program} {w:World} {base:Nat} {spare:Nat->Bool} {held:Bool}
theorem uw{P:Program}{e:TypeId}:∀{l:List (DataW H)}{d:DataW H},d∈l->∀n∈d.weights P e,n∈DataW.weightsAll P e l
 |[],_,h=>by cases h
 |x::l,d,h=>by
  intro n hn;simp only[DataW.weightsAll,tab];rcases Tab.1 h with rfl|h
  .simp_all
  .exact .inr (uw h n hn)
theorem BH{n fuel:Nat}{cs:List Value}(m:∀t cs x s,shOf P n t=some s->DataW.trod enc P w base spare held fuel t cs=some x->(∀n∈x.1.weights P t,n<=reachBytes)->∃ds,ep s ds/\VsRel (R0 w) w ds cs/\∀c∈cs,one c=true) :
 ∀(fs:List Field) (off:Nat) (l:List Sh) (e:Nat),aw (shOf P n) P fs off=some (l,e)->
  (∀f∈fs,∃x,DataW.trod enc P w base spare held fuel f.type ((cs.drop f.offset).take (P.cellsOf f.type))=some x/\∀n∈x.1.weights P f.type,n<=reachBytes)->
  ∃ds,cy l ds/\VsRel (R0 w) w ds ((cs.drop off).take (e-off))/\∀c∈(cs.drop off).take (e-off),one c=true
 |[],off,l,e,h,_=>by
  simp[aw]at h;obtain⟨rfl,rfl⟩:=h;refine⟨[],by simp[cy],by simp[VsRel],by simp⟩
 |g::gs,off,l,e,h,hx=>by
  simp only[aw]at h;split at h
  .rename_i d;split at h
   .rename_i s l' e' o h2;simp only[dab,Vaa]at h;obtain⟨rfl,rfl⟩:=h;obtain⟨x,k,j⟩:=hx g (by simp);obtain⟨a,k1,p,k3⟩:=m _ _ _ _ o k j;obtain⟨b,m1,m2,m3⟩:=BH m gs _ _ _ h2 λf hf=>hx f (by grind);have hle:=TH h2;have i:(cs.drop off).take (e'-off)=(cs.drop g.offset).take (P.cellsOf g.type)++(cs.drop (off+P.cellsOf g.type)).take (e'-(off+P.cellsOf g.type)):=by
     rw[show e'-off=P.cellsOf g.type+(e'-(off+P.cellsOf g.type)) by omega,List.take_add,Rad,d]
    rw[i];refine⟨a++b,by simp only[cy];grind,lH p m2,λc hc=>?_⟩
    grind
   .cases h
  .cases h
theorem AR{n fuel S:Nat}{cs:List Value}{e:TypeId}{s:Sh}(h:∀cs x,DataW.trod enc P w base spare held fuel e cs=some x->(∀n∈x.1.weights P e,n<=reachBytes)->∃ds,ep s ds/\VsRel (R0 w) w ds cs/\∀c∈cs,one c=true) :
 ∀(k i:Nat),(∀j,i<=j->j<i+k->∃x,DataW.trod enc P w base spare held fuel e ((cs.drop (j*S)).take S)=some x/\∀n∈x.1.weights P e,n<=reachBytes)->
  ∃ds,cy (Daa k s) ds/\VsRel (R0 w) w ds ((cs.drop (i*S)).take (k*S))/\∀c∈(cs.drop (i*S)).take (k*S),one c=true
 |0,i,_=>⟨[],by simp[cy],by simp[VsRel],by simp⟩
 |k+1,i,hx=>by
  obtain⟨x,g,f⟩:=hx i (Paa _) (by omega);obtain⟨a,k1,l,k3⟩:=h _ _ g f;obtain⟨b,m1,m2,m3⟩:=AR (n:=n) h k (i+1) λj h1 h2=>hx j (by omega) (by omega);have d:(cs.drop (i*S)).take ((k+1)*S)=(cs.drop (i*S)).take S++(cs.drop ((i+1)*S)).take (k*S):=by
   grind[Nat.succ_mul,Rad]
  rw[d];refine⟨a++b,by simp only[List.replicate_succ,cy];grind,lH l m2,λc hc=>?_⟩
  grind
theorem pS{A:Bool}{ds:List D}{cs:List Value}(h:VsRel (R0 w) w ds cs) (f:∀c∈cs,one c=true) (g:A=false->cs.length=1) :
 ∃u:Value,VRel (R0 w) w (uu A ds) u/\u.cells=cs.toArray/\(A=true->u=.agg cs.toArray)/\(A=false->∃c,cs=[c]/\u=c):=by
 cases A with
 |true=>exact⟨.agg cs.toArray,by simp only[uu,cond_true,VRel];simp_all,rfl,λ_=>rfl,λh=>by cases h⟩
 |false=>
  match cs,g rfl with
  |[c],_=>
   match ds,h with
   |d::r,h=>
    simp only[VsRel]at h;obtain⟨u,us,hu,hv,hr⟩:=h;injection hu with e hu2;subst e;have b:=f c (by simp);have a:c.cells=[c].toArray:=by cases c<;>simp[one]at b<;>rfl
    exact⟨c,by grind[uu],a,λh=>Bool.noConfusion h,λ_=>⟨c,rfl,rfl⟩⟩
theorem U9{n:Nat}{s:Sh}(h:shOf P n t=some s) {fuel:Nat}{cs:List Value}{x:DataW H×List MemPlace}(hx:DataW.trod enc P w base spare held fuel t cs=some x):aggT P t=false->cs.length=1:=by
 intro c
 cases n with
 |zero=>grind[shOf]
 |succ n=>
  simp only[shOf]at h;simp only[aggT]at c;split at h
  .rename_i hu;obtain⟨b,rfl,_⟩:=DataW.trod_bool hu hx;rfl
  .rename_i hu;obtain⟨b,rfl,_⟩:=DataW.trod_int hu hx;rfl
  .rename_i hu;obtain⟨b,rfl,_⟩:=DataW.trod_string hu hx;rfl
  .rename_i hu;rcases DataW.trod_slice hu hx with⟨rfl,_⟩|⟨a,len,cap,elems,rest,m,_,rfl,_⟩<;>rfl
  all_goals simp_all
theorem NC:∀(n:Nat) (fuel:Nat) (t:TypeId) (cs:List Value) (x:DataW H×List MemPlace) (s:Sh),shOf P n t=some s->DataW.trod enc P w base spare held fuel t cs=some x->(∀n∈x.1.weights P t,n<=reachBytes)->
 ∃ds,ep s ds/\VsRel (R0 w) w ds cs/\∀c∈cs,one c=true
 |0,fuel,t,cs,x,s,h,_,_=>by grind[shOf]
 |n+1,fuel,t,cs,x,s,h,hx,o=>by
  simp only[shOf]at h;split at h
  .rename_i hu;injection h with h;subst h;obtain⟨b,rfl,_⟩:=DataW.trod_bool hu hx;exact⟨[.v (.bool b)],by simp only[ep];simp,by simp[VsRel,VRel],by simp[one]⟩
  .rename_i k hu;injection h with h;subst h;obtain⟨b,rfl,_,hw⟩:=DataW.trod_int hu hx;exact⟨[.v (.int k b)],by simp only[ep];simp_all,by simp[VsRel,VRel],by simp[one]⟩
  .rename_i hu;injection h with h;subst h;obtain⟨b,rfl,_,hw⟩:=DataW.trod_string hu hx;exact⟨[.v (.string b)],by simp only[ep];simp_all,by simp[VsRel,VRel],by simp[one]⟩
  .rename_i e hu;split at h
   .rename_i hpos;simp only[Faa]at h;obtain⟨G,p,rfl⟩:=h;rcases DataW.trod_slice hu hx with⟨rfl,_⟩|⟨a,len,cap,elems,rest,m,_,rfl,rfl,hb,hl,hm,g,K,_,_⟩
    .refine⟨[.sl (P.cellsOf e) []],by simp only[ep];simp,?_,by simp[one]⟩;simp only[VsRel,VRel]
     grind
    .simp only[DataW.weights,hu,Tab,tab]at o;have L:=o _ (.inl rfl);have hle:len*P.bytesOf e<=140737488355328:=by
      simp only[dac]at L;have C:=Nat.mul_le_mul_right (P.bytesOf e) (show len<=elems.length+rest.length by omega)
      grind[reachBytes]
     have each:∀i,i<len->∃d u,(∃cs,ep G cs/\d=uu (aggT P e) cs)/\VRel (R0 w) w d u/\u.cells.size=P.cellsOf e/\(∀j c,u.cells[j]?=some c->one c=true/\w.cell? ((a.add (i*P.cellsOf e)).add j)=some c):=by
      intro i hi;have C:=K i hi;rw[Baa (by omega)]at C;obtain⟨ecs,O,y⟩:=gac.1 C;obtain⟨ds,m1,m2,m3⟩:=NC n _ _ _ _ _ p y (λq hq=>o q (.inr (.inl (uw (vae (Iaa _)) q hq))));obtain⟨_,q1,q2⟩:=World.cells?_some O;obtain⟨u,r1,r2,_,_⟩:=pS (A:=aggT P e) m2 m3 (U9 p y)
      grind
     have F:∀k,k<=len->∃l:List D,l.length=k/\(∀d∈l,∃cs,ep G cs/\d=uu (aggT P e) cs)/\∀(i:Nat) d,l[i]?=some d->∃u,VRel (R0 w) w d u/\u.cells.size=P.cellsOf e/\(∀j c,u.cells[j]?=some c->one c=true/\w.cell? ((a.add (i*P.cellsOf e)).add j)=some c):=by
      intro k
      induction k with
      |zero=>simp
      |succ k X=>
       intro hk;obtain⟨l,R,Y,Q⟩:=X (by omega);obtain⟨d,u,d1,d2,d3,d4⟩:=each k (by omega);refine⟨l++[d],by grind,λd' J=>?_,λi d' J=>?_⟩
       all_goals grind
     obtain⟨l,R,Y,Q⟩:=F len (Paa _);refine⟨[.sl (P.cellsOf e) l],by simp only[ep];simp_all,?_,by simp[one]⟩;simp only[VsRel,VRel];refine⟨_,_,rfl,⟨some a,len,cap,rfl,R.symm,hl,?_⟩,rfl⟩
     cases l with
     |nil=>simp
     |cons V l'=>
      obtain⟨T,_,us,uc⟩:=Q 0 V rfl;have W:∃c,T.cells[0]?=some c:=⟨T.cells[0]'(by omega),Array.getElem?_eq_getElem (by omega)⟩;obtain⟨c,hc⟩:=W;have z:=(uc 0 c hc).2;have E:(a.add (0*P.cellsOf e)).add 0=a:=by simp[Addr.add]
      rw[E]at z;obtain⟨b,off,spot⟩:=a;have B:spot=none:=by simpa using World.cell?_spot z
      subst B;refine .inr ⟨b,off,rfl,UP z,?_⟩;rw[rf];intro i d hd;obtain⟨u,Z,u2,u3⟩:=Q i d hd;refine⟨u,Z,u2,λj c hj=>?_⟩;obtain⟨U,c2⟩:=u3 j c hj;refine⟨U,?_⟩;have haddr:(Addr.add (Addr.add ⟨b,off,none⟩ (i*P.cellsOf e)) j)=⟨b,off+i*P.cellsOf e+j,none⟩:=by
       unfold Addr.add
       grind
      simp_all
   .cases h
  .rename_i fs hu;split at h
   .rename_i l e M;split at h
    .rename_i he;injection h with h;subst h;obtain⟨xs,m,rfl,rfl,g,N,r⟩:=DataW.trod_struct hu hx;simp only[DataW.weights,hu]at o;obtain⟨ds,O,y,k3⟩:=BH (n:=n) (fuel:=m) (cs:=cs) (λt cs x s C h2 I=>NC n _ _ _ _ _ C h2 I) fs.toList 0 l e M (λf hf=>by
      obtain⟨i,hi,hfi⟩:=List.mem_iff_getElem.1 hf;have hi':i<fs.size:=by omega
      have:=r i f (by simp_all);rw[Baa (by omega)]at this;exact⟨_,this,λq hq=>o q (DataW.weights_mem_each (j:=i) (t:=f.type) (d:=(xs[i]'(by omega)).1) (by simp_all) (by simp_all) q hq)⟩)
     rw[jad,qad,he,←g,tac]at y k3;exact⟨ds,by simp only[ep];omega,y,k3⟩
    .cases h
   .cases h
  .rename_i k e hu;split at h
   .rename_i he;simp only[Faa]at h;obtain⟨G,p,rfl⟩:=h;obtain⟨xs,m,rfl,rfl,g,N,r⟩:=DataW.trod_array hu hx;simp only[DataW.weights,hu]at o;obtain⟨ds,O,y,k3⟩:=AR (n:=n) (fuel:=m) (S:=P.cellsOf e) (cs:=cs) (e:=e) (s:=G) (λcs x h2 I=>NC n _ _ _ _ _ p h2 I) k 0 (λj _ hj=>by
     grind[uw,vae,Iaa])
    rw[Nat.zero_mul,jad,←he,←g,tac]at y k3;exact⟨ds,by simp only[ep];omega,y,k3⟩
   .cases h
  .cases h
def LookV(A:Bool) (s:Sh) (d:D):Prop:=∃ds,ep s ds/\d=uu A ds
theorem arg_tree{n:Nat}{s:Sh}{v:Value}{d:DataW H}{p:List MemPlace}{r:Reach}{g:Nat}(h:shOf P n t=some s) (hx:DataW.Trod enc P w base spare held t v d p) (hv:Value.okWide P w r g t v) (f:∀n∈d.weights P t,n<=reachBytes) :
 ∃d',LookV (aggT P t) s d'/\VRel (R0 w) w d' v:=by
 obtain⟨fuel,hx⟩:=hx;obtain⟨ds,i,j,k3⟩:=NC n _ _ _ _ _ h hx f;obtain⟨u,u1,u2,k,m⟩:=pS (A:=aggT P t) j k3 (U9 h hx);refine⟨uu (aggT P t) ds,⟨ds,i,rfl⟩,?_⟩;have:u=v:=by
  cases e:aggT P t with
  |true=>
   rw[k e];unfold aggT at e;split at e
   .rename_i hu;simp only[Value.okWide,hu]at hv;obtain⟨cs,rfl,_⟩:=hv;simp[Value.cells]
   .rename_i hu;simp only[Value.okWide,hu]at hv;obtain⟨cs,rfl,_⟩:=hv;simp[Value.cells]
   simp_all
  |false=>
   obtain⟨c,hc,rfl⟩:=m e
   cases n with
   |zero=>grind[shOf]
   |succ n=>
    simp only[shOf]at h;unfold aggT at e;split at h
    .rename_i hu;obtain⟨b,rfl⟩:=okWide_bool hu hv;grind[Value.cells]
    .rename_i hu;obtain⟨b,rfl⟩:=okWide_int hu hv;grind[Value.cells]
    .rename_i hu;obtain⟨b,rfl⟩:=okWide_string hu hv;grind[Value.cells]
    .rename_i hu;obtain⟨a,l,c',rfl⟩:=okWide_slice hu hv;grind[Value.cells]
    all_goals simp_all
 simp_all
end
theorem PR{G':Gh}(h:Step G w [] G' w' m'):Below w.heap.size w w':=
 ⟨h.os,h.tape,h.output,h.size,λk hk=>h.keep k hk λ⟨i,e,he,_⟩=>by simp at he⟩
theorem gok_tab{P:Program}{W:World}{name:String}(i:P.globalNamed name=some 0) (f:Go.Lib.TabIs P W name .i64 [31,28,31,30,31,30,31,31,30,31,30,31]):GOK (R0 W) W:=by
 intro g d h;unfold gtab at h;split at h
 .injection h with h;subst h;have hc:=f.cell i;refine(by
   simp only[VRel];refine⟨0,0,.agg (([31,28,31,30,31,30,31,31,30,31,30,31]:List Int).map λn=>Value.int .i64 n).toArray,rfl,?_,⟨_,rfl,?_,?_⟩,?_⟩
   .exact UP (a:=⟨0,0,none⟩) (hc 0 (by decide))
   .simp only[cab,Zac,VsRel,VRel];simp
   .intro c hc;simp only[cab,Zac,Tab,List.not_mem_nil,or_false]at hc;rcases hc with rfl|rfl|rfl|rfl|rfl|rfl|rfl|rfl|rfl|rfl|rfl|rfl<;>rfl
   .intro j c hj;have e:(([31,28,31,30,31,30,31,31,30,31,30,31]:List Int).map λn=>Value.int .i64 n)[j]?=some c:=by grind[Value.cells]
    obtain⟨hlt,b⟩:=gab.1 e;have hlt':j<([31,28,31,30,31,30,31,31,30,31,30,31]:List Int).length:=by grind
    rw[List.getElem_map]at b;subst b;refine⟨rfl,?_⟩
    simp_all:VRel (R0 W) W (.pt (.agg ([31,28,31,30,31,30,31,31,30,31,30,31].map λn=>.v (.int .i64 n)))) (.pointer (some ⟨0,0,none⟩)))
 .cases h
theorem law_walk{P:Program}{f:FuncId}{ds:List D}(h:CallT P f ds [] λd _=>d=.v (.bool true)) (hv:VsRel (R0 w) w ds vs) (b:GOK (R0 w) w) :
 Calls P f vs.toArray w λe w'=>e=.returned (.bool true)/\Below w.heap.size w w':=by
 refine(h.2 (R0 w) w vs hv (jF (λ_ h=>h) b)).mono ?_;rintro e w' ⟨v,d,m',G',rfl,rfl,a,-,c⟩;simp only[VRel]at a;subst a;exact⟨rfl,PR c⟩
variable {P:Program}
theorem binJ_r(op:BinOp) (j k:IntKind) (a b:Int):Rh (binOp op 0 (.int j a) (.int k b))=Yh op j a k b:=(binJ_eq ..).symm
theorem wrapF_r(k:IntKind) (n:Int):k.wrap n=aa k n:=(eA k n).symm
variable {P:Program}
abbrev Xs:=List (Option Nat×Nat×Nat)
variable {os:Xs}
def Kw(ρ:Xs) (j:Nat):Bool:=ρ.all λo=>match o.1 with|some k=>k !=j|none=>true
inductive Sbs (ρ:Xs) (m:List Ent):List D->List D->Prop
 |nil:Sbs ρ m [] []
 |same {d l r} (hf:va d=true) (h:Sbs ρ m l r):Sbs ρ m (d::l) (d::r)
 |dead {d l r} (h:Sbs ρ m l r):Sbs ρ m (d::l) (.dead::r)
 |nils {S l r} (h:Sbs ρ m l r):Sbs ρ m (.v (.slice none 0 0)::l) (.sl S []::r)
 |tD {S u l r} (i:Nat) (hi:ρ[i]?=some (none,S,u)) (h:Sbs ρ m l r):Sbs ρ m (.v (.slice none 0 0)::l) (.own i u::r)
 |agg {a b l r} (ha:Sbs ρ m a b) (h:Sbs ρ m l r):Sbs ρ m (.agg a::l) (.agg b::r)
 |tup {a b l r} (ha:Sbs ρ m a b) (h:Sbs ρ m l r):Sbs ρ m (.tup a::l) (.tup b::r)
 |sl {S a b l r} (ha:Sbs ρ m a b) (h:Sbs ρ m l r):Sbs ρ m (.sl S a::l) (.sl S b::r)
 |own {j v u i l r} (hi:ρ[i]?=some (some j,v,u)) (h:Sbs ρ m l r):Sbs ρ m (.own j v::l) (.own i u::r)
 |ref {j v u i x s l r} (hi:ρ[i]?=some (some j,v,u)) (h:Sbs ρ m l r):Sbs ρ m (.ref j v x s::l) (.ref i u x s::r)
 |view {j v u i lo n l r} (hi:ρ[i]?=some (some j,v,u)) (h:Sbs ρ m l r):Sbs ρ m (.view j v lo n::l) (.view i u lo n::r)
 |mp {j i l r} (hi:ρ[i]?=some (some j,0,0)) (h:Sbs ρ m l r):Sbs ρ m (.mp j::l) (.mp i::r)
 |Yf {S j v a b l r} (hm:m[j]?=some (.live S v a)) (ho:Kw ρ j=true) (ha:Sbs ρ m a b) (h:Sbs ρ m l r):Sbs ρ m (.own j v::l) (.sl S b::r)
 |fview {S j v lo n a b l r} (hm:m[j]?=some (.live S v a)) (ho:Kw ρ j=true) (hn:lo+n<=a.length) (ha:Sbs ρ m ((a.drop lo).take n) b) (h:Sbs ρ m l r):Sbs ρ m (.view j v lo n::l) (.sl S b::r)
 |fref {S j v x a d e l r} (hm:m[j]?=some (.live S v a)) (ho:Kw ρ j=true) (hx:a[x]?=some d) (ha:Sbs ρ m [d] [e]) (h:Sbs ρ m l r):Sbs ρ m (.ref j v x 0::l) (.pt e::r)
 |pt {d e l r} (ha:Sbs ρ m [d] [e]) (h:Sbs ρ m l r):Sbs ρ m (.pt d::l) (.pt e::r)
 |fn {f a b c d l r} (ha:Sbs ρ m a b) (hc:Sbs ρ m c d) (h:Sbs ρ m l r):Sbs ρ m (.fn f a c::l) (.fn f b d::r)
 |ifc {t d e l r} (ha:Sbs ρ m [d] [e]) (h:Sbs ρ m l r):Sbs ρ m (.ifc t d::l) (.ifc t e::r)
def frM(es:List (Value×D)):Bool:=es.all λp=>va p.2
inductive Ets (ρ:Xs) (m:List Ent):Xs->List Ent->Prop
 |nil:Ets ρ m [] []
 |live {j v u S l l' os es} (hm:m[j]?=some (.live S v l)) (hl:Sbs ρ m l l') (h:Ets ρ m os es):Ets ρ m ((some j,v,u)::os) (.live S u l'::es)
 |new {S u os es} (h:Ets ρ m os es):Ets ρ m ((none,S,u)::os) (.live S u []::es)
 |mp {j es os ees} (hm:m[j]?=some (.mp es)) (hf:frM es=true) (h:Ets ρ m os ees):Ets ρ m ((some j,0,0)::os) (.mp es::ees)
variable {m:List Ent}
structure Tell (ρ:Xs) (s S:St):Prop where
 t:Sbs ρ s.m s.t S.t
 m:Ets ρ s.m ρ S.m
 one:(ρ.filterMap (·.1)).Nodup
variable {S:St}
def ob(G:Gh) (m:List Ent) (ρ:Xs):Gh where
 F b:=G.F b\/(Zf G m b/\∀(i j:Nat) v,ρ[i]?=some (some j,v)->G.B j≠some b)
 n:=ρ.length
 B i:=match ρ[i]? with|some (some j,_)=>G.B j|_=>none
 V i:=match ρ[i]? with|some (_,_,u)=>u|_=>0
 S i:=match ρ[i]? with|some (some j,_)=>G.S j|some (none,S,_)=>S|_=>0
 N i:=match ρ[i]? with|some (some j,_)=>G.N j|_=>0
 C i:=match ρ[i]? with|some (some j,_)=>G.C j|_=>(0,0)
theorem rW{ρ:Xs}(h:Kw ρ j=true):∀(i k:Nat) v,ρ[i]?=some (some k,v)->k≠j:=by
 grind[Kw]
theorem iH{ρ:Xs}(hi:Inv G w m) (d:∀(i j:Nat) v,ρ[i]?=some (some j,v)->∃e:Ent,m[j]?=some e/\e.isLive=true) {e:Ent}(hm:m[j]?=some e) (hl:e.isLive=true) (ho:Kw ρ j=true) {b:Nat}(hb:G.B j=some b):(ob G m ρ).F b:=by
 refine .inr ⟨⟨j,e,hm,hl,hb⟩,λi k v a g=>?_⟩;obtain⟨e',c,f⟩:=d i k v a;exact rW ho i k v a (hi.apart k j e' e c hm f hl b g hb)
theorem Sbs.length{ρ:Xs}{m:List Ent}{l r:List D}(h:Sbs ρ m l r):l.length=r.length:=by
 induction h<;>simp_all
theorem tE{ρ:Xs}{o:Option Nat×Nat×Nat}(h:ρ[i]?=some o):i<ρ.length:=by
 grind
theorem Sbs.rel{ρ:Xs}(hi:Inv G w m) (z:∀(i j:Nat) v,ρ[i]?=some (some j,v)->∃e:Ent,m[j]?=some e/\e.isLive=true/\(∀S E l,e=.live S E l->E=v.1)) {l:List D}(h:Sbs ρ m l r) :
 (∀us,VsRel G w l us->VsRel (ob G m ρ) w r us)/\(∀b S off,Qa G w b S l off->Qa (ob G m ρ) w b S r off):=by
 have y:∀(i j:Nat) v,ρ[i]?=some (some j,v)->∃e:Ent,m[j]?=some e/\e.isLive=true:=λi j v h=>by grind
 have both:∀{d e:D} {l r:List D},(∀u,VRel G w d u->VRel (ob G m ρ) w e u)->
  ((∀us,VsRel G w l us->VsRel (ob G m ρ) w r us)/\(∀b S off,Qa G w b S l off->Qa (ob G m ρ) w b S r off))->
  ((∀us,VsRel G w (d::l) us->VsRel (ob G m ρ) w (e::r) us)/\(∀b S off,Qa G w b S (d::l) off->Qa (ob G m ρ) w b S (e::r) off)):=by
  intro d e l r h1 h2;refine⟨λus hv=>?_,λb S off hv=>?_⟩
  .simp only[VsRel]at hv⊢
   grind
  .simp only[Qa]at hv⊢
   grind
 have first:∀{d e:D},(∀us,VsRel G w [d] us->VsRel (ob G m ρ) w [e] us)->∀u,VRel G w d u->VRel (ob G m ρ) w e u:=by
  intro d e h u hu;have:=h [u] (by simp only[VsRel];simp_all);simp only[VsRel]at this
  simp_all
 induction h with
 |nil=>exact⟨λus h=>by simpa [VsRel] using h,λ_ _ _ _=>by simp[Qa]⟩
 |same hf h o=>exact both (λu hu=>VRel.free (G':=ob G m ρ) ⟨λ_ h=>Or.inl h,λ_ _=>rfl⟩ hf hu) o
 |dead h o=>exact both (λu _=>by simp[VRel]) o
 |nils h o=>exact both (λu hu=>by simp only[VRel]at hu⊢;grind) o
 |tD i k h o=>
  refine both (λu hu=>?_) o;simp only[VRel]at hu⊢;exact⟨none,0,0,hu,tE k,by grind[ob],λ_=>by grind[ob]⟩
 |agg ha h q o=>
  refine both (λu hu=>?_) o;simp only[VRel]at hu⊢
  grind
 |tup ha h q o=>
  refine both (λu hu=>?_) o;simp only[VRel]at hu⊢
  grind
 |sl ha h q o=>
  refine both (λu hu=>?_) o;simp only[VRel]at hu⊢;obtain⟨a,n,cap,rfl,hn,hc,g⟩:=hu;refine⟨a,n,cap,rfl,by rw[←ha.length];omega,hc,?_⟩;rcases g with rfl|⟨b,off,rfl,B,hr⟩
  .exact .inl (Uaa ha.length.symm)
  .exact .inr ⟨b,off,rfl,.inl B,q.2 b _ off hr⟩
 |own k h o=>
  refine both (λu hu=>?_) o;obtain⟨e,he,hl,hv⟩:=z _ _ _ k;simp only[VRel]at hu⊢;obtain⟨a,n,c,rfl,g1,g2,g3⟩:=hu;refine⟨a,n,c,rfl,tE k,by grind[ob],λ_=>?_⟩;have f:=hi.ent _ _ he
  cases e with
  |live S E l'=>
   obtain⟨a1,_⟩:=f;have:=g3 (by grind)
   grind[ob]
  |mp es=>
   obtain⟨a1,_⟩:=f
   grind[ob]
  |gone=>grind[Ent.isLive]
 |ref k h o=>
  refine both (λu hu=>?_) o;obtain⟨e,he,hl,hv⟩:=z _ _ _ k;simp only[VRel]at hu⊢;obtain⟨a,rfl,g1,g2,g3⟩:=hu;refine⟨a,rfl,tE k,by grind[ob],λ_=>?_⟩;have f:=hi.ent _ _ he
  cases e with
  |live S E l'=>
   obtain⟨a1,_⟩:=f;have:=g3 (by grind);simpa [ob,k] using this
  |mp es=>
   obtain⟨a1,_⟩:=f;have:=g3 (by omega);simpa [ob,k] using this
  |gone=>grind[Ent.isLive]
 |view k h o=>
  refine both (λu hu=>?_) o;obtain⟨e,he,hl,hv⟩:=z _ _ _ k;simp only[VRel]at hu⊢;obtain⟨a,c,rfl,N,g1,g2,g3⟩:=hu;refine⟨a,c,rfl,N,tE k,by grind[ob],λ_=>?_⟩;have f:=hi.ent _ _ he
  cases e with
  |live S E l'=>
   obtain⟨a1,_⟩:=f;have:=g3 (by grind);simpa [ob,k] using this
  |mp es=>
   obtain⟨a1,_⟩:=f;have:=g3 (by omega);simpa [ob,k] using this
  |gone=>grind[Ent.isLive]
 |mp k h o=>
  refine both (λu hu=>?_) o;simp only[VRel]at hu⊢;obtain⟨b,rfl,g1,g2⟩:=hu;obtain⟨e,he,hl,hv⟩:=z _ _ _ k;have f:=hi.ent _ _ he;refine⟨b,rfl,tE k,λ_=>?_⟩
  cases e with
  |live S E l'=>
   obtain⟨a1,_⟩:=f;have:=g2 (by grind)
   grind[ob]
  |mp es=>
   obtain⟨a1,_⟩:=f
   grind[ob]
  |gone=>grind[Ent.isLive]
 |Yf hm ho ha h q o=>
  refine both (λu hu=>?_) o;obtain⟨a1,a2,a3,a4,a5⟩:=hi.ent _ _ hm;simp only[VRel]at hu⊢;obtain⟨a,n,c,rfl,g1,g2,g3⟩:=hu;obtain⟨rfl,rfl,rfl⟩:=g3 a1;refine⟨_,_,_,rfl,by rw[a3,ha.length],by omega,?_⟩;rcases a5 with a5|⟨J,cs,T,s,B,A,H,t⟩
  .have K:=congrArg Fae a5.2;dsimp only at K;exact .inl (Uaa (by have:=ha.length;omega))
  .exact .inr ⟨J,(G.C _).2,by simp_all,iH hi y hm rfl ho s,q.2 J _ _ t⟩
 |@fview S j v lo n a b l r hm ho hn ha h q o=>
  refine both (λu hu=>?_) o;obtain⟨a1,a2,a3,a4,a5⟩:=hi.ent _ _ hm;simp only[VRel]at hu⊢;obtain⟨p,c,rfl,M,L,I,hx⟩:=hu;have F:=ha.length;rw[List.length_take,List.length_drop]at F;refine⟨p,_,c,rfl,by omega,M,?_⟩;rcases hx a1 with rfl|⟨b,hb,rfl⟩
  .grind
  .rcases a5 with a5|⟨J,cs,T,s,B,A,H,t⟩
   .simp_all
   .rw[hb]at s;injection s with s;subst s;refine .inr ⟨_,_,rfl,iH hi y hm rfl ho hb,q.2 _ _ _ ?_⟩
    grind[Fx,Dx]
 |fref hm ho hx ha h q o=>
  refine both (λu hu=>?_) o;obtain⟨a1,a2,a3,a4,a5⟩:=hi.ent _ _ hm;simp only[VRel]at hu⊢;obtain⟨p,rfl,L,I,P⟩:=hu;obtain⟨b,hb,rfl⟩:=P a1;rcases a5 with a5|⟨J,cs,T,s,B,A,H,t⟩
  .simp_all
  .rw[hb]at s;injection s with s;subst s;obtain⟨u,Q,k2,k3⟩:=rf.1 t _ _ hx;refine⟨b,_,u,rfl,iH hi y hm rfl ho hb,first q.1 u Q,?_⟩
   grind
 |pt ha h q o=>
  refine both (λu hu=>?_) o;simp only[VRel]at hu⊢;obtain⟨b,off,x,rfl,B,hd,O⟩:=hu;exact⟨b,off,x,rfl,.inl B,first q.1 x hd,O⟩
 |fn ha hc h q ihc o=>
  refine both (λu hu=>?_) o;simp only[VRel]at hu⊢
  grind
 |ifc ha h q o=>
  refine both (λu hu=>?_) o;simp only[VRel]at hu⊢
  grind
theorem Ets.get{ρ:Xs}(h:Ets ρ m os es):os.length=es.length/\∀(i:Nat) e,es[i]?=some e->
 (∃j v u S l l',os[i]?=some (some j,v,u)/\m[j]?=some (.live S v l)/\Sbs ρ m l l'/\e=.live S u l')\/(∃S u,os[i]?=some (none,S,u)/\e=.live S u [])\/(∃j l,os[i]?=some (some j,0,0)/\m[j]?=some (.mp l)/\frM l=true/\e=.mp l):=by
 induction h with
 |nil=>simp
 |live hm hl h a=>
  grind
 |new h a=>
  grind
 |mp hm hf h a=>
  grind
theorem Ets.src{ρ:Xs}(h:Ets ρ m os es):∀(i j:Nat) v,os[i]?=some (some j,v)->∃e:Ent,m[j]?=some e/\e.isLive=true/\(∀S a l,e=.live S a l->a=v.1):=by
 induction h with
 |nil=>simp
 |live hm hl h b=>
  intro i j v hi
  cases i with
  |zero=>
   simp only[oab,dab,Vaa]at hi;obtain⟨rfl,rfl⟩:=hi;exact⟨_,hm,rfl,λS a l he=>by simp_all⟩
  |succ i=>grind
 |new h b=>
  grind
 |mp hm hf h b=>
  intro i j v hi
  cases i with
  |zero=>
   simp only[oab,dab,Vaa]at hi;obtain⟨rfl,rfl⟩:=hi;exact⟨_,hm,rfl,λS a l he=>nomatch he⟩
  |succ i=>grind
theorem Wd.free{G G':Gh}{w:World}(a:∀b,G.F b->G'.F b):∀{l:List (Value×D)}{es:List MapEntry},frM l=true->Wd G w l es->Wd G' w l es
 |[],es,_,h=>h
 |(k,d)::l,es,hf,h=>by
  simp only[frM,nac,Laa]at hf;obtain⟨e,r,c,f,h2,g⟩:=h;exact⟨e,r,c,f,VRel.free (G':=G') ⟨λ_ h=>a _ h,λ_ _=>rfl⟩ hf.1 h2,Wd.free a hf.2 g⟩
theorem oN{ρ:Xs}(h:(ρ.filterMap (·.1)).Nodup):∀(i a j:Nat) v b,ρ[i]?=some (some j,v)->ρ[a]?=some (some j,b)->i=a:=by
 induction ρ with
 |nil=>simp
 |cons o os ih=>
  grind
def HA(ρ:Xs):Nat->Bool
 |0=>true
 |n+1=>HA ρ n&&(match ρ[n]? with|some (some j,v,u)=>j==n&&decide (v<=u)|_=>false)
theorem EG{ρ:Xs}:∀{n:Nat},HA ρ n=true->∀i,i<n->∃v u,v<=u/\ρ[i]?=some (some i,v,u)
 |0,_,i,hi=>absurd hi (Jad i)
 |n+1,h,i,hi=>by
  simp only[HA,Laa]at h;rcases Nat.lt_or_ge i n with a|a
  .exact EG h.1 i a
  grind
theorem wE{N:Nat}{ρ:Xs}{s:St}(hk:HA ρ N=true) (h:Tell ρ s S) {a:Act}(hr:Rel G w a s):Rel (ob G s.m ρ) w a S/\StepN N G w s.m (ob G s.m ρ) w S.m:=by
 have hi:=hr.inv;have p:=h.m.src;have d:=h.m.get;have hrow:∀{l r:List D},Sbs ρ s.m l r->∀b S off,Qa G w b S l off->Qa (ob G s.m ρ) w b S r off:=λL=>(L.rel hi p).2;have q:∀b,Zf (ob G s.m ρ) S.m b->Zf G s.m b:=by
  rintro b ⟨i,e,he,hl,hB⟩;rcases d.2 i e he with⟨j,v,u,S',l,l',c,h2,f,rfl⟩|⟨S',u,c,rfl⟩|⟨j,l,c,h2,f,rfl⟩
  .exact⟨j,_,h2,rfl,by grind[ob]⟩
  .grind[ob]
  .exact⟨j,_,h2,rfl,by grind[ob]⟩
 refine⟨⟨(h.t.rel hi p).1 _ hr.t,⟨d.1,?_,?_,?_,hi.gl.bare λ_ h=>.inl h⟩,hr.defers⟩,⟨λ_ hb=>.inl hb,λ_ _=>rfl,?_,?_,rfl,rfl,rfl,Paa _,λ_ _ _=>rfl,?_,λb _ hb=>q b hb⟩⟩
 .rintro b (hb|hb)
  .exact hi.F b hb
  .exact(Zf.lt hi hb.1).1
 .intro i e he;rcases d.2 i e he with⟨j,v,u,S',l,l',c,h2,f,rfl⟩|⟨S',u,c,rfl⟩|⟨j,l,c,h2,f,rfl⟩
  rotate_left 2
  .obtain⟨a1,z,I,H,o,K,g,x⟩:=hi.ent _ _ h2;refine⟨by grind[ob],z,I,H,by grind[ob],?_,g,Wd.free (G':=ob G s.m ρ) (λ_ h=>Or.inl h) f x⟩;rintro(hb|⟨_,hb⟩)
   all_goals grind
  .obtain⟨a1,a2,a3,a4,a5⟩:=hi.ent _ _ h2;have hlen:=f.length;refine⟨by grind[ob],by grind[ob],by grind[ob],by grind[ob],?_⟩;rcases a5 with a5|⟨z,cs,T,o,K,g,hsz,x⟩
   .grind[ob]
   .refine .inr ⟨z,cs,T,by grind[ob],?_,g,by grind[ob],by grind[ob]⟩;rintro(hb|⟨_,hb⟩)
    all_goals grind
  .exact⟨by grind[ob],by grind[ob],by grind[ob],by simp,.inl (by grind[ob])⟩
 .intro i M e e' he A hl hl' b hb o;have src:∀(i:Nat) e,S.m[i]?=some e->(ob G s.m ρ).B i=some b->∃j v e0,ρ[i]?=some (some j,v)/\s.m[j]?=some e0/\e0.isLive=true/\G.B j=some b:=by
   intro i e he hb;rcases d.2 i e he with⟨j,v,u,S1,l,l',c,h2,f,rfl⟩|⟨S1,u,c,rfl⟩|⟨j,l,c,h2,f,rfl⟩
   .exact⟨j,_,_,c,h2,rfl,by grind[ob]⟩
   .grind[ob]
   .exact⟨j,_,_,c,h2,rfl,by grind[ob]⟩
  obtain⟨j,v,e0,c,h2,f,y⟩:=src i e he hb;obtain⟨E,O,e0',g1,g2,g3,g4⟩:=src M e' A o;have hj:j=E:=hi.apart j E _ _ h2 g2 f g3 b y g4;subst hj;exact oN h.one _ _ _ _ _ c g1
 .cases N with
  |zero=>omega
  |succ n=>
   obtain⟨v,u,-,hv⟩:=EG hk n (cae n);exact tE hv
 .intro i C;obtain⟨v,u0,hvu,hv⟩:=EG hk i C;obtain⟨e,he,hl,hver⟩:=p _ _ _ hv;have hent:=hi.ent _ _ he;have hV:G.V i=v:=by
   rcases d.2 i _ (Baa (by grind))with⟨j,O,u,S',l,l',c,h2,f,y⟩|⟨S',u,c,y⟩|⟨j,l,c,h2,f,y⟩
   .rw[hv]at c;injection c with c;injection c with k c;injection k with k;injection c with c J;subst k;subst c;exact(hi.ent _ _ h2).1
   .simp_all
   .rw[hv]at c;injection c with c;injection c with k c;injection k with k;injection c with c J;subst k;subst c;exact(hi.ent _ _ h2).1
  grind[ob]
 .rintro b _ (hb|⟨hb,_⟩)
  all_goals simp_all
theorem T.tell{N:Nat}(ρ:Xs) {c:C}{K:Exit->St->Prop}{s:St}(hk:HA ρ N=true) (h:Tell ρ s S) (b:Tm.T P N c K S):Tm.T P N c K s:=
 T.ghost (λG w a _ hr=>⟨_,(wE hk h hr).1,(wE hk h hr).2⟩) b
variable {P:Program} {N:Nat}
inductive Ex (σ β ρ:Type) where
 |go (s:σ)
 |brk (b:β)
 |ret (v:ρ)
variable {β σ:Type}{ρ:Xs}
section
variable {σ β ρ:Type}
def tu(step:σ->Option (Ex σ β ρ)):Nat->σ->Option (β⊕ρ)
 |0,_=>none
 |n+1,s=>
  match step s with
  |none=>none
  |some (.go s')=>tu step n s'
  |some (.brk b)=>some (.inl b)
  |some (.ret v)=>some (.inr v)
theorem eE{step:σ->Option (Ex σ β ρ)}:∀{n:Nat}{s:σ}{r},tu step n s=some r->∀k,tu step (n+k) s=some r
 |0,s,r,h,k=>by grind[tu]
 |n+1,s,r,h,k=>by
  rw[show n+1+k=(n+k)+1 by omega];simp only[tu]at h⊢;split
  .simp_all
  .rename_i a;rw[a]at h;exact eE h k
  all_goals simp_all
open Classical in
noncomputable def ca(step:σ->Option (Ex σ β ρ)) (s:σ):Option (β⊕ρ):=
 if h:∃n r,tu step n s=some r then some h.choose_spec.choose else none
theorem jK{step:σ->Option (Ex σ β ρ)}{s:σ}{n:Nat}{r}(h:tu step n s=some r):ca step s=some r:=by
 have a:∃n r,tu step n s=some r:=⟨n,r,h⟩;unfold ca;rw[dif_pos a];have h1:=eE a.choose_spec.choose_spec n
 grind[eE]
theorem dN{step:σ->Option (Ex σ β ρ)}{s:σ}{r}:ca step s=some r↔∃n,tu step n s=some r:=by
 grind[ca,jK]
theorem yg{step:σ->Option (Ex σ β ρ)}{s s':σ}(h:step s=some (.go s')):ca step s=ca step s':=by
 apply Option.ext;intro r;simp only[dN];constructor
 .rintro⟨n,hn⟩
  cases n with
  |zero=>grind[tu]
  |succ n=>grind[tu]
 .rintro⟨n,hn⟩;exact⟨n+1,by grind[tu]⟩
theorem vc{step:σ->Option (Ex σ β ρ)}{s:σ}{b:β}(h:step s=some (.brk b)):ca step s=some (.inl b):=jK (n:=1) (by grind[tu])
theorem Ms{step:σ->Option (Ex σ β ρ)}{s:σ}{v:ρ}(h:step s=some (.ret v)):ca step s=some (.inr v):=jK (n:=1) (by grind[tu])
end
inductive Tells (N:Nat):St->St->Prop
 |refl (s:St):Tells N s s
 |step {s s' S:St} (ρ:Xs) (hk:HA ρ N=true) (h:Tell ρ s s') (t:Tells N s' S):Tells N s S
theorem Tells.one{s:St}(ρ:Xs) (hk:HA ρ N=true) (h:Tell ρ s S):Tells N s S:=.step ρ hk h (.refl S)
theorem Tells.trans{a b c:St}(h:Tells N a b) (k:Tells N b c):Tells N a c:=by
 induction h with
 |refl=>exact k
 |step ρ hk h t d=>exact .step ρ hk h (d k)
theorem T.vL{c:C}{K:Exit->St->Prop}{s:St}(h:Tells N s S) (hT:Tm.T P N c K S):Tm.T P N c K s:=by
 induction h with
 |refl=>omega
 |step ρ hk h t ih=>grind[T.tell]
def Stb(N:Nat) (K:Exit->St->Prop):Prop:=∀s S,Tells N s S->K .normal S->K .normal s
theorem stb_S{b:C}{K:Exit->St->Prop}:Stb N (KS P N b K):=λs S h k=>T.vL h k
theorem stb_B{K:Exit->St->Prop}(h:Stb N K):Stb N (KB id K):=h
def KL{σ β ρ:Type}(N id:Nat) (K:Exit->St->Prop) (S:σ->St) (B:β->St) (z:Ex σ β ρ) (e:Exit) (s':St):Prop:=
 match e with
 |.normal=>match z with|.go x=>Tells N s' (S x)|_=>False
 |.exit j=>if j=id then(match z with|.brk b=>Tells N s' (B b)|_=>False)else K (.exit j) s'
 |e=>K e s'
section
variable {σ β ρ:Type} {id:Nat} {K:Exit->St->Prop} {S:σ->St} {B:β->St} {s':St}
theorem KL_go{x:σ}:KL N id K S B (.go x:Ex σ β ρ) .normal s'=Tells N s' (S x):=Caa rfl rfl
theorem KL_brk{b:β}:KL N id K S B (.brk b:Ex σ β ρ) (.exit j) s'=if j=id then Tells N s' (B b)else K (.exit j) s':=Caa rfl rfl
theorem KL_ret{z:Ex σ β ρ}:KL N id K S B z .ret s'=K .ret s':=Caa rfl rfl
theorem KL_out{v:ρ}:KL N id K S B (.ret v:Ex σ β ρ) (.exit j) s'=if j=id then False else K (.exit j) s':=Caa rfl rfl
theorem stb_L{z:Ex σ β ρ}:Stb N (KL N id K S B z):=by
 intro s S' h k
 cases z with
 |go x=>exact h.trans k
 |_=>exact k.elim
theorem T.ca{x:C}{s:St}(S:σ->St) (B:β->St) (step:σ->Option (Ex σ β ρ)) (x0:σ) {y:β⊕ρ}(g:Tm.ca step x0=some y) (l:Tells N s (S x0)) (f:Stb N K)
 (round:∀a z,step a=some z->(∀v,z=.ret v->y=.inr v)->Tm.T P N x (KL N id K S B z) (S a))
 (rest:∀b,y=.inl b->K .normal (B b)):Tm.T P N (.block id (.loop x)) K s:=by
 obtain⟨n,hn⟩:=dN.1 g;clear g;refine T.block (T.loopI (X:=Nat×σ) (λp s=>Tells N s (S p.2)/\tu step p.1 p.2=some y) (λp=>p.1) (n,x0) ⟨l,hn⟩ ?_);rintro⟨n,k⟩ s1 ⟨d,c⟩;refine T.vL d ?_
 cases n with
 |zero=>grind[tu]
 |succ n=>
  cases i:step k with
  |none=>grind[tu]
  |some z=>
   simp only[tu,i]at c;refine(round k z i (λv hv=>by simp_all)).mono ?_;intro e s' h
   cases e with
   |normal=>
    cases z with
    |go m=>exact⟨(n,m),⟨by grind[KL_go],c⟩,cae n⟩
    |_=>exact(h:False).elim
   |exit j=>
    simp only[KL]at h⊢;split
    .rename_i hj;rw[if_pos hj]at h
     cases z with
     |brk b=>exact f _ _ h (rest b (wab c).symm)
     |_=>simp_all
    simp_all
   |ret=>exact h
   |_=>exact h
end
def KJ{X R:Type}(N:Nat) (K:Exit->St->Prop) (S:X->St) (z:X⊕R) (e:Exit) (s':St):Prop:=
 match e with
 |.normal=>match z with|.inl x=>Tells N s' (S x)|.inr _=>False
 |e=>K e s'
section
variable {X R:Type} {K:Exit->St->Prop} {S:X->St} {s':St}
theorem wM{x:X}:KJ N K S (.inl x:X⊕R) .normal s'=Tells N s' (S x):=Caa rfl rfl
theorem KJ_exit{z:X⊕R}:KJ N K S z (.exit j) s'=K (.exit j) s':=Caa rfl rfl
theorem KJ_ret{z:X⊕R}:KJ N K S z .ret s'=K .ret s':=Caa rfl rfl
theorem stb_J{z:X⊕R}:Stb N (KJ N K S z):=by
 intro s S' h k
 cases z with
 |inl x=>exact h.trans k
 |inr _=>exact k.elim
theorem T.join{a b:C}{s:St}(S:X->St) (z:X⊕R) (ha:Tm.T P N a (KJ N K S z) s) (hb:∀x,z=.inl x->Tm.T P N b K (S x)):Tm.T P N (.seq a b) K s:=by
 refine T.seq (ha.mono ?_);intro e s' h
 cases e with
 |normal=>
  cases z with
  |inl x=>exact T.vL (by grind[wM]) (hb x rfl)
  |inr _=>exact(h:False).elim
 |_=>exact h
end
variable {P:Program}
def Den(P:Program) (k:Nat) (ds:List D) (o:D):Prop:=∀m,CallT P k ds m λd m'=>d=o/\m'=m
theorem jL{l:List D}(h:Sbs [] m l r):oa r=true:=by
 induction h<;>simp_all[oa,va]
theorem Sbs.v{ρ:Xs}{m:List Ent}{x:Value}{l r:List D}(h:Sbs ρ m l r):Sbs ρ m (.v x::l) (.v x::r):=.same rfl h
theorem Sbs.free{ρ:Xs}{m:List Ent}:∀{l:List D},oa l=true->Sbs ρ m l l
 |[],_=>.nil
 |d::l,h=>by simp only[oa,Laa]at h;exact .same h.1 (Sbs.free h.2)
theorem Sbs.app{a b c d:List D}(f:Sbs ρ m a b) (h2:Sbs ρ m c d):Sbs ρ m (a++c) (b++d):=by
 induction f with
 |nil=>exact h2
 |same hf h e=>exact .same hf e
 |dead h e=>exact .dead e
 |nils h e=>exact .nils e
 |tD i hi h e=>exact .tD i hi e
 |agg ha h _ e=>exact .agg ha e
 |tup ha h _ e=>exact .tup ha e
 |sl ha h _ e=>exact .sl ha e
 |own hi h e=>exact .own hi e
 |ref hi h e=>exact .ref hi e
 |view hi h e=>exact .view hi e
 |mp hi h e=>exact .mp hi e
 |Yf hm ho ha h _ e=>exact .Yf hm ho ha e
 |fview hm ho hn ha h _ e=>exact .fview hm ho hn ha e
 |fref hm ho hx ha h _ e=>exact .fref hm ho hx ha e
 |pt ha h _ e=>exact .pt ha e
 |fn ha hc h _ _ e=>exact .fn ha hc e
 |ifc ha h _ e=>exact .ifc ha e
class Fr {α:Type} (e:α->D):Prop where
 h:∀x,va (e x)=true
variable {e:Operand}
theorem fF{α:Type}{e:α->D}(h:∀x,va (e x)=true):∀l:List α,oa (l.map e)=true
 |[]=>rfl
 |x::l=>by simp[oa,h x,fF h l]
theorem Fr.l{α:Type}{e:α->D} [Fr e] (l:List α):oa (l.map e)=true:=fF Fr.h l
theorem Fr.s{α:Type}{e:α->D} [Fr e] (S:Nat) (l:List α):va (.sl S (l.map e))=true:=Fr.l (e:=e) l
theorem Vu{N:Nat}{s:St}(h:Tells N s S):∀{G:Gh}{w:World}{a:Act},N<=G.n->Rel G w a s->∃G',Rel G' w a S/\StepN N G w s.m G' w S.m:=by
 induction h with
 |refl s=>grind[StepN.refl]
 |step ρ hk h t e=>
  intro G w a hN hr;obtain⟨b,h2⟩:=wE hk h hr;obtain⟨G',c,d⟩:=e h2.n b;exact⟨G',c,h2.trans d⟩
def jz(rs:List RV) (o:D) (e:Exit) (s:St):Prop:=
 match e with
 |.normal=>∃S,Tells 0 s S/\∃ds,Db S rs=some ds/\Sbs [] S.m [Zq ds] [o]
 |.ret=>∃S,Tells 0 s S/\∃ds,Db S rs=some ds/\Sbs [] S.m [Zq ds] [o]
 |_=>False
def vQ(r:Option (List D)) (m:List Ent) (o:D):Prop:=∃ds,r=some ds/\Sbs [] m [Zq ds] [o]
def Fin(m:List Ent) (d o:D):Prop:=Sbs [] m [d] [o]
theorem uG{ds:List D}{o:D}:vQ (some ds) m o=Fin m (Zq ds) o:=by simp[vQ,Fin]
@[congr] theorem endF_congr{r a:Option (List D)} {m:List Ent} {o:D} (h:r=a):vQ r m o=vQ a m o:=by rw[h]
theorem uM{o:D}{s:St}(h:vQ (Db s rs) s.m o):jz rs o .ret s:=by
 obtain⟨ds,a,h2⟩:=h;exact⟨s,.refl s,ds,a,h2⟩
theorem stb_F{o:D}:Stb 0 (jz rs o):=by
 rintro s S h ⟨S',a,h2⟩;exact⟨S',h.trans a,h2⟩
theorem SP{f:FuncId}{ds:List D}{o:D}(hf:oa ds=true) (h:CallT P f ds [] λd m'=>Sbs [] m' [d] [o]):Den P f ds o:=by
 refine λm=>⟨h.1,λG w vs hv hi=>?_⟩;have l:=h.2 (Gh.bare G.F) w vs (VsRel.free (G:=G) (G':=Gh.bare G.F) ⟨λ_ h=>h,λ_ _=>rfl⟩ hf hv) (jF hi.F (hi.gl.bare λ_ h=>h));refine l.mono ?_;rintro e w' ⟨v,d,m',G',rfl,g,hvd,c,q⟩;obtain⟨-,-,p⟩:=CM hi q c (λ_ h=>h);obtain⟨g1,g2⟩:=p λ_ h=>h;refine⟨v,o,m,_,rfl,⟨rfl,rfl⟩,?_,g1,g2⟩;have k:=(g.rel c (λi j v h=>by grind)).1 [v] (by simp only[VsRel];simp_all);simp only[VsRel]at k;obtain⟨u,us,he,n,_⟩:=k;injection he with he _;subst he;have a:=jL g;simp only[oa,Hac]at a;refine VRel.free (G:=ob G' m' []) (G':={ G with F:=λb=>G'.F b\/Zf G' m' b }) ⟨?_,λ_ _=>rfl⟩ a n;rintro b (hb|⟨hb,_⟩)
 all_goals simp_all
theorem Den.of{ds:List D}{o:D}(g:pz P k=some F) (b:((P.funcs[k]?).map λfn=>fn.name == "runtime.NumGoroutine")=some false) (hf:oa ds=true)
 (h:T P 0 F.code (jz F.results o) ⟨ds++Daa (F.ntmps-ds.length) .dead,[]⟩):Den P k ds o:=by
 refine SP hf (gm g b ?_);refine T.D4 (h.mono ?_);have key:∀(e:Exit) (s:St),(∀s',PD F.results (λd m'=>Sbs [] m' [d] [o]) e s' = ∃ds,Db s' F.results=some ds/\Sbs [] s'.m [Zq ds] [o])->(∃S,Tells 0 s S/\∃ds,Db S F.results=some ds/\Sbs [] S.m [Zq ds] [o])->yP 0 (PD F.results λd m'=>Sbs [] m' [d] [o]) e s:=by
  intro e s he ⟨S,f,h2⟩ G w a hN hr;obtain⟨G',h3,h4⟩:=Vu f hN hr
  grind
 intro e s c
 cases e with
 |normal=>exact key _ s (λ_=>rfl) c
 |ret=>exact key _ s (λ_=>rfl) c
 |_=>exact(c:False).elim
theorem UD{ds:List D}{o:D}(h:Den P k ds' o) (q:Sbs [] m ds ds') (a:flat o=true) (hf:f o m):Cf P k ds m f:=by
 refine mc (m1:=m) (d1:=o) ⟨(h []).1,λG w vs hv hi=>?_⟩ hf;have n:=(q.rel hi (λi j v h=>by grind)).1 vs hv;have l:VsRel (Gh.bare (ob G m []).F) w ds' vs:=VsRel.free (G:=ob G m []) ⟨λ_ h=>h,λ_ _=>rfl⟩ (jL q) n;have r:=(h []).2 _ w vs l (jF (λb hb=>by
  rcases hb with hb|⟨hb,_⟩
  .exact hi.F b hb
  .exact(Zf.lt hi hb).1) (hi.gl.bare λ_ h=>.inl h))
 refine r.mono ?_;rintro e w' ⟨v,d,m',G',rfl,⟨rfl,-⟩,p,c,g⟩;obtain⟨-,h2,-⟩:=CM hi g c (λ_ h=>.inl h);exact⟨v,d,m,G,rfl,⟨rfl,rfl⟩,p.flat a,h2.1,h2.2⟩
def idx{α:Type}(l:List α) (i:Int):Option α:=if 0<=i then l[i.toNat]? else none
def app{α:Type}(b:Nat) (l r:List α):Option (List α):=if(l.length+r.length)*b<=2 ^ 47 then some (l++r)else none
def put{α:Type}(l:List α) (i:Int) (x:α):Option (List α):=if 0<=i/\i.toNat<l.length then some (l.set i.toNat x)else none
def UB{α:Type}(b:Nat) (x:α) (n c:Int):Option (List α):=if 0<=n/\n<=c/\c<=2 ^ 62/\c.toNat*b<=2 ^ 48 then some (Daa n.toNat x)else none
def quo(k:IntKind) (a b:Int):Option Int:=if b=0 then none else some (aa k (a.tdiv b))
def rem(k:IntKind) (a b:Int):Option Int:=if b=0 then none else some (a.tmod b)
theorem Gv{α:Type}{l:List α}{i:Int}{x:α}(h:idx l i=some x):0<=i/\l[i.toNat]?=some x:=by
 grind[idx]
theorem IP{α:Type}{b:Nat}{l r x:List α}(h:app b l r=some x):(l.length+r.length)*b<=140737488355328/\x=l++r:=by
 grind[app]
theorem N7{α:Type}{l x:List α}{i:Int}{y:α}(h:put l i y=some x):0<=i/\i.toNat<l.length/\x=l.set i.toNat y:=by
 grind[put]
theorem V6{α:Type}{b:Nat}{x:α}{n c:Int}{l:List α}(h:UB b x n c=some l):0<=n/\n<=c/\c<=4611686018427387904/\c.toNat*b<=281474976710656/\l=Daa n.toNat x:=by
 grind[UB]
theorem Ap{α:Type}{o:Option α}{f:α->Option β}{r:β}(h:o.bind f=some r):∃x,o=some x/\f x=some r:=gac.1 h
variable {P:Program} {N:Nat}
def QD(f:D->D->Prop):List D->List D->Prop
 |[],[]=>True
 |d::l,e::r=>f d e/\QD f l r
 |_,_=>False
def cB(f:D->D->Prop) (a b:List D):Prop:=(a=b/\oa a=true)\/QD f a b
def Sq(ρ:Xs) (m:List Ent):Nat->D->D->Prop
 |0,_,_=>False
 |n+1,d,e=>
  match e with
  |.dead=>True
  |.v y=>match d with|.v x=>x=y|_=>False
  |.agg b=>match d with|.agg a=>cB (Sq ρ m n) a b|_=>False
  |.tup b=>match d with|.tup a=>cB (Sq ρ m n) a b|_=>False
  |.sl S b=>
   match d with
   |.v x=>x=.slice none 0 0/\b=[]
   |.sl S' a=>S'=S/\cB (Sq ρ m n) a b
   |.own j v=>
    match m[j]? with
    |some (.live S' g a)=>S'=S/\g=v/\Kw ρ j=true/\cB (Sq ρ m n) a b
    |_=>False
   |.view j v lo k=>
    match m[j]? with
    |some (.live S' g a)=>S'=S/\g=v/\Kw ρ j=true/\lo+k<=a.length/\cB (Sq ρ m n) ((a.drop lo).take k) b
    |_=>False
   |_=>False
  |.own i u=>
   match d with
   |.own j v=>ρ[i]?=some (some j,v,u)
   |.v x=>x=.slice none 0 0/\∃S,ρ[i]?=some (none,S,u)
   |_=>False
  |.ref i u x s=>match d with|.ref j v p s'=>ρ[i]?=some (some j,v,u)/\p=x/\s'=s|_=>False
  |.view i u lo k=>match d with|.view j v h o=>ρ[i]?=some (some j,v,u)/\h=lo/\o=k|_=>False
  |.pt e'=>
   match d with
   |.pt d'=>(d'=e'/\va d'=true)\/Sq ρ m n d' e'
   |.ref j v x s=>
    match m[j]? with
    |some (.live _ g a)=>g=v/\s=0/\Kw ρ j=true/\(match a[x]? with|some d'=>(d'=e'/\va d'=true)\/Sq ρ m n d' e'|none=>False)
    |_=>False
   |_=>False
  |.fn f b d'=>match d with|.fn l a c=>l=f/\cB (Sq ρ m n) a b/\cB (Sq ρ m n) c d'|_=>False
  |.mp i=>match d with|.mp j=>ρ[i]?=some (some j,0,0)|_=>False
  |.ifc t e'=>match d with|.ifc t' d'=>t'=t/\((d'=e'/\va d'=true)\/Sq ρ m n d' e')|_=>False
theorem Fy{ρ:Xs}{m:List Ent}{f:D->D->Prop}(hf:∀d e l r,f d e->Sbs ρ m l r->Sbs ρ m (d::l) (e::r)):∀{a b:List D},QD f a b->Sbs ρ m a b
 |[],[],_=>.nil
 |d::l,e::r,h=>hf d e l r h.1 (Fy hf h.2)
 |[],_::_,h=>h.elim
 |_::_,[],h=>h.elim
theorem Gy{f:D->D->Prop}(hf:∀d e l r,f d e->Sbs ρ m l r->Sbs ρ m (d::l) (e::r)) {a b:List D}(h:cB f a b):Sbs ρ m a b:=by
 rcases h with⟨rfl,h⟩|h
 all_goals grind[Sbs.free,Fy]
theorem Mx{ρ:Xs}{m:List Ent}:∀(n:Nat) (d e:D) (l r:List D),Sq ρ m n d e->Sbs ρ m l r->Sbs ρ m (d::l) (e::r)
 |0,d,e,l,r,h,_=>h.elim
 |n+1,d,e,l,r,h,c=>by
  have g:=Mx (ρ:=ρ) (m:=m) n;have one:∀d' e',((d'=e'/\va d'=true)\/Sq ρ m n d' e')->Sbs ρ m [d'] [e']:=by
   rintro d' e' (⟨rfl,h⟩|h)
   .exact .same h .nil
   .exact g _ _ _ _ h .nil
  cases e with
  |dead=>exact .dead c
  |v y=>cases d<;>simp only[Sq]at h;subst h;exact .v c
  |agg b=>cases d<;>simp only[Sq]at h;exact .agg (Gy g h) c
  |tup b=>cases d<;>simp only[Sq]at h;exact .tup (Gy g h) c
  |sl S b=>
   cases d with
   |v x=>simp only[Sq]at h;obtain⟨rfl,rfl⟩:=h;exact .nils c
   |sl S' a=>simp only[Sq]at h;obtain⟨rfl,h⟩:=h;exact .sl (Gy g h) c
   |own j v=>
    simp only[Sq]at h;split at h
    .rename_i S' o a hm;obtain⟨rfl,rfl,ho,h⟩:=h;exact .Yf hm ho (Gy g h) c
    simp_all
   |view j v lo k=>
    simp only[Sq]at h;split at h
    .rename_i S' o a hm;obtain⟨rfl,rfl,ho,hl,h⟩:=h;exact .fview hm ho hl (Gy g h) c
    simp_all
   |_=>simp only[Sq]at h
  |own i u=>
   cases d with
   |own j v=>simp only[Sq]at h;exact .own h c
   |v x=>simp only[Sq]at h;obtain⟨rfl,S,h⟩:=h;exact .tD i h c
   |_=>simp only[Sq]at h
  |ref i u x s=>cases d<;>simp only[Sq]at h;obtain⟨h,rfl,rfl⟩:=h;exact .ref h c
  |view i u lo k=>cases d<;>simp only[Sq]at h;obtain⟨h,rfl,rfl⟩:=h;exact .view h c
  |pt e'=>
   cases d with
   |pt d'=>simp only[Sq]at h;exact .pt (one _ _ h) c
   |ref j v x s=>
    simp only[Sq]at h;split at h
    .rename_i S' o a hm;obtain⟨rfl,rfl,ho,h⟩:=h;split at h
     .rename_i d' hd;exact .fref hm ho hd (one _ _ h) c
     simp_all
    simp_all
   |_=>simp only[Sq]at h
  |fn f b d'=>cases d<;>simp only[Sq]at h;obtain⟨rfl,p,h2⟩:=h;exact .fn (Gy g p) (Gy g h2) c
  |mp i=>cases d<;>simp only[Sq]at h;exact .mp h c
  |ifc t e'=>cases d<;>simp only[Sq]at h;obtain⟨rfl,h⟩:=h;exact .ifc (one _ _ h) c
def jG(ρ:Xs) (m:List Ent):Xs->List Ent->Prop
 |[],[]=>True
 |(some j,v,u)::os,.live S c b::es=>u=c/\(match m[j]? with|some (.live S' d a)=>S'=S/\d=v/\cB (Sq ρ m 9) a b|_=>False)/\jG ρ m os es
 |(none,S,u)::os,.live S' c b::es=>S=S'/\u=c/\b=[]/\jG ρ m os es
 |(some j,v,u)::os,.mp b::es=>v=0/\u=0/\(match m[j]? with|some (.mp a)=>a=b/\frM b=true|_=>False)/\jG ρ m os es
 |_,_=>False
theorem LI{ρ:Xs}{m:List Ent}:∀{os:Xs}{es:List Ent},jG ρ m os es->Ets ρ m os es
 |[],[],_=>.nil
 |(some j,v,u)::os,.live S d b::es,h=>by
  simp only[jG]at h;obtain⟨rfl,c,h2⟩:=h;split at c
  .rename_i S' v' a hm;obtain⟨rfl,rfl,c⟩:=c;exact .live hm (Gy (Mx 9) c) (LI h2)
  simp_all
 |(none,S,u)::os,.live S' d b::es,h=>by
  simp only[jG]at h;obtain⟨rfl,rfl,rfl,h2⟩:=h;exact .new (LI h2)
 |[],_::_,h=>by simp[jG]at h
 |_::_,[],h=>by simp[jG]at h
 |(some j,v,u)::os,.mp b::es,h=>by
  simp only[jG]at h;obtain⟨rfl,rfl,c,h2⟩:=h;split at c
  .rename_i a hm;obtain⟨rfl,c⟩:=c;exact .mp hm c (LI h2)
  simp_all
 |(some j,v,u)::os,.gone::es,h=>by simp[jG]at h
 |(none,S,u)::os,.mp _::es,h=>by simp[jG]at h
 |(none,S,u)::os,.gone::es,h=>by simp[jG]at h
theorem Tells.q(ρ:Xs) {s:St}(hk:HA ρ N=true) (a:(ρ.filterMap (·.1)).Nodup) (h:QD (Sq ρ s.m 9) s.t S.t/\jG ρ s.m ρ S.m):Tells N s S:=
 .one ρ hk ⟨Fy (Mx 9) h.1,LI h.2,a⟩
section
variable {ρ:Xs} {m:List Ent} {n:Nat} {d e:D} {a b c l r:List D} {x y:Value} {S S' i j u v k lo q s:Nat}
theorem sqL_nil{f:D->D->Prop}:QD f [] []=True:=Caa rfl rfl
theorem Y9{f:D->D->Prop}:QD f (d::l) (e::r)=(f d e/\QD f l r):=Caa rfl rfl
theorem Gj{f:D->D->Prop}(h:oa a=true):cB f a a=True:=by simp[cB,h]
theorem sqS_L{f:D->D->Prop}:cB f (d::l) (e::r)=(((d::l=e::r)/\oa (d::l)=true)\/(f d e/\QD f l r)):=Caa rfl rfl
theorem sqS_nil{f:D->D->Prop}:cB f [] []=True:=by simp[cB,oa]
theorem sq_dead:Sq ρ m (n+1) d .dead=True:=Caa rfl rfl
theorem sq_v:Sq ρ m (n+1) (.v x) (.v y)=(x=y):=Caa rfl rfl
theorem sq_agg:Sq ρ m (n+1) (.agg a) (.agg b)=cB (Sq ρ m n) a b:=Caa rfl rfl
theorem sq_tup:Sq ρ m (n+1) (.tup a) (.tup b)=cB (Sq ρ m n) a b:=Caa rfl rfl
theorem sq_nils:Sq ρ m (n+1) (.v x) (.sl S b)=(x=.slice none 0 0/\b=[]):=Caa rfl rfl
theorem sq_sl:Sq ρ m (n+1) (.sl S' a) (.sl S b)=(S'=S/\cB (Sq ρ m n) a b):=Caa rfl rfl
theorem sq_froz:Sq ρ m (n+1) (.own j v) (.sl S b)=(match m[j]? with|some (.live S' c a)=>S'=S/\c=v/\Kw ρ j=true/\cB (Sq ρ m n) a b|_=>False):=Caa rfl rfl
theorem aaa:Sq ρ m (n+1) (.view j v lo k) (.sl S b)=(match m[j]? with|some (.live S' c a)=>S'=S/\c=v/\Kw ρ j=true/\lo+k<=a.length/\cB (Sq ρ m n) ((a.drop lo).take k) b|_=>False):=Caa rfl rfl
theorem sq_own:Sq ρ m (n+1) (.own j v) (.own i u)=(ρ[i]?=some (some j,v,u)):=Caa rfl rfl
theorem Z9:Sq ρ m (n+1) (.v x) (.own i u)=(x=.slice none 0 0/\∃S,ρ[i]?=some (none,S,u)):=Caa rfl rfl
theorem sq_ref:Sq ρ m (n+1) (.ref j v q s) (.ref i u k lo)=(ρ[i]?=some (some j,v,u)/\q=k/\s=lo):=Caa rfl rfl
theorem sq_view{a b:Nat}:Sq ρ m (n+1) (.view j v a b) (.view i u lo k)=(ρ[i]?=some (some j,v,u)/\a=lo/\b=k):=Caa rfl rfl
theorem sq_pt:Sq ρ m (n+1) (.pt d) (.pt e)=((d=e/\va d=true)\/Sq ρ m n d e):=Caa rfl rfl
theorem sq_fref:Sq ρ m (n+1) (.ref j v q s) (.pt e)=(match m[j]? with
 |some (.live _ b a)=>b=v/\s=0/\Kw ρ j=true/\(match a[q]? with|some d'=>(d'=e/\va d'=true)\/Sq ρ m n d' e|none=>False)
 |_=>False):=Caa rfl rfl
theorem sq_fn{f d:FuncId}{d':List D}:Sq ρ m (n+1) (.fn d a c) (.fn f b d')=(d=f/\cB (Sq ρ m n) a b/\cB (Sq ρ m n) c d'):=Caa rfl rfl
theorem et_nil:jG ρ m [] []=True:=Caa rfl rfl
theorem et_live{c:Nat}:jG ρ m ((some j,v,u)::os) (.live S c b::es)=(u=c/\(match m[j]? with|some (.live S' d a)=>S'=S/\d=v/\cB (Sq ρ m 9) a b|_=>False)/\jG ρ m os es):=by simp only[jG]
theorem et_new{a:Nat}:jG ρ m ((none,S,u)::os) (.live S' a b::es)=(S=S'/\u=a/\b=[]/\jG ρ m os es):=by simp only[jG]
theorem sq_mp:Sq ρ m (n+1) (.mp j) (.mp i)=(ρ[i]?=some (some j,0,0)):=Caa rfl rfl
theorem et_mp{b:List (Value×D)}:jG ρ m ((some j,v,u)::os) (.mp b::es)=(v=0/\u=0/\(match m[j]? with|some (.mp a)=>a=b/\frM b=true|_=>False)/\jG ρ m os es):=by simp only[jG]
theorem frM_nil:frM []=true:=Caa rfl rfl
theorem F7:Kw [] j=true:=Caa rfl rfl
theorem XY{o:Option Nat×Nat×Nat}:Kw (o::ρ) j=((match o.1 with|some k=>k !=j|none=>true)&&Kw ρ j):=Caa rfl rfl
end
theorem fin_q{d o:D}(h:Sq [] m 9 d o):Fin m d o:=Mx 9 d o [] [] h .nil
theorem LF{l:List D}(h:Sbs [] [] l r):(∀us,VsRel G w l us->VsRel G w r us)/\(∀b S off,Qa G w b S l off->Qa G w b S r off):=by
 have both:∀{d e:D} {l r:List D},(∀u,VRel G w d u->VRel G w e u)->
  ((∀us,VsRel G w l us->VsRel G w r us)/\(∀b S off,Qa G w b S l off->Qa G w b S r off))->
  ((∀us,VsRel G w (d::l) us->VsRel G w (e::r) us)/\(∀b S off,Qa G w b S (d::l) off->Qa G w b S (e::r) off)):=by
  intro d e l r h1 h2;refine⟨λus hv=>?_,λb S off hv=>?_⟩
  .simp only[VsRel]at hv⊢
   grind
  .simp only[Qa]at hv⊢
   grind
 have first:∀{d e:D},(∀us,VsRel G w [d] us->VsRel G w [e] us)->∀u,VRel G w d u->VRel G w e u:=by
  intro d e h u hu;have:=h [u] (by simp only[VsRel];simp_all);simp only[VsRel]at this
  simp_all
 induction h with
 |nil=>simp
 |same hf h c=>exact both (λu hu=>hu) c
 |dead h c=>exact both (λu _=>by simp[VRel]) c
 |nils h c=>exact both (λu hu=>by simp only[VRel]at hu⊢;grind) c
 |agg ha h f c=>
  refine both (λu hu=>?_) c;simp only[VRel]at hu⊢
  grind
 |tup ha h f c=>
  refine both (λu hu=>?_) c;simp only[VRel]at hu⊢
  grind
 |sl ha h f c=>
  refine both (λu hu=>?_) c;simp only[VRel]at hu⊢;obtain⟨a,n,cap,rfl,hn,hc,g⟩:=hu;refine⟨a,n,cap,rfl,by rw[←ha.length];omega,hc,?_⟩;rcases g with rfl|⟨b,off,rfl,hF,hr⟩
  .exact .inl (Uaa ha.length.symm)
  grind
 |pt ha h f c=>
  refine both (λu hu=>?_) c;simp only[VRel]at hu⊢
  grind
 |fn ha hc h f ihc c=>
  refine both (λu hu=>?_) c;simp only[VRel]at hu⊢
  grind
 |ifc ha h f c=>
  refine both (λu hu=>?_) c;simp only[VRel]at hu⊢
  grind
 |tD i hi=>simp at hi
 |own hi=>simp at hi
 |ref hi=>simp at hi
 |view hi=>simp at hi
 |mp hi=>simp at hi
 |Yf hm=>simp at hm
 |fview hm=>simp at hm
 |fref hm=>simp at hm
theorem HI{ds:List D}{o:D}(h:Den P k ds' o) (hf:f o m) (a:QD (Sq [] [] 9) ds ds'):Cf P k ds m f:=
 mc (m1:=m) (d1:=o) ⟨(h m).1,λG w vs hv hi=>(h m).2 G w vs ((LF (Fy (Mx 9) a)).1 vs hv) hi⟩ hf
theorem mJ{ds:List D}{o:D}(h:Den P k ds' o) (hf:f o m) (a:flat o=true) (b:QD (Sq [] m 9) ds ds'):Cf P k ds m f:=
 UD h (Fy (Mx 9) b) a hf
section
variable {K:Exit->St->Prop} {s:St} {l:List RI} {a b:C} {c:Operand} {t:Bool} {id q:Nat}
theorem T.rg(h:Oi P l (K .normal) s):Tm.T P N (.IS l) K s:=T.IS (mw h)
theorem T.cd(ht:s.ev c=.v (.bool t)) (h:gP (t=true) (Tm.T P N a K s) (Tm.T P N b K s)):Tm.T P N (.cond c a b) K s:=
 T.cond ht (λe=>h.1 e) (λe=>h.2 (by grind))
theorem T.bk(h:Tm.T P N a (KB id K) s):Tm.T P N (.block id a) K s:=T.block (h.mono λe s' b=>by cases e<;>exact b)
theorem T.sr(h:Oi P l (KS P N b K .normal) s):Tm.T P N (.seq (.IS l) b) K s:=T.S9 (T.rg h)
theorem gP.ite{q N:Prop} [Decidable q] {α:Type}{A B:Option α}{r:α}(h:(if q then A else B)=some r) (a:p↔q) (d:q->A=some r->Y) (h2:¬q->B=some r->N):gP p Y N:=by
 by_cases c:q
 .rw[if_pos c]at h;exact⟨λ_=>d c h,λb=>(b (a.2 c)).elim⟩
 .rw[if_neg c]at h;exact⟨λb=>(c (a.1 b)).elim,λ_=>h2 c h⟩
end
def ds:Nat->List D->List D
 |0,l=>l
 |n+1,l=>.dead::ds n l
theorem Kr{l:List D}:ds 0 l=l:=Caa rfl rfl
theorem Aq{n:Nat}{l:List D}:ds (n+1) l=.dead::ds n l:=Caa rfl rfl
theorem rpS{α:Type}{a:α}:Daa 1 a=[a]/\Daa 2 a=[a,a]/\Daa 3 a=[a,a,a]/\Daa 55 a=[a,a,a,a,a,a,a,a,a,a,a,a,a,a,a,a,a,a,a,a,a,a,a,a,a,a,a,a,a,a,a,a,a,a,a,a,a,a,a,a,a,a,a,a,a,a,a,a,a,a,a,a,a,a,a]:=⟨rfl,rfl,rfl,rfl⟩
variable {P:Program} {N:Nat}
def L6(ok:Bool) (z:D) (m:List Ent) (o:Option D):Option (D×List Ent):=
 match o with
 |some d=>some (if ok then .tup [d,.v (.bool true)]else d,m)
 |none=>some (if ok then .tup [z,.v (.bool false)]else z,m)
def W6{β:Type}:List (Int×β)->Int->Option β
 |[],_=>none
 |(q,x)::l,k=>if k=q then some x else W6 l k
def mpt{β:Type}(k:Int) (x:β):List (Int×β)->List (Int×β)
 |[]=>[(k,x)]
 |(q,y)::l=>if k=q then(k,x)::l else(q,y)::mpt k x l
def em{β:Type}(e:β->D) (l:List (Int×β)):List (Value×D):=l.map λp=>(.int .i64 p.1,e p.2)
theorem aW{β:Type}{e:β->D}{k:Int}:∀{l:List (Int×β)},BD (.int .i64 k) (em e l)=(W6 l k).map e
 |[]=>Caa rfl rfl
 |(q,x)::l=>by
  have a:=aW (e:=e) (k:=k) (l:=l);simp only[em]at a;simp only[em,cab,BD,IA,W6,beq_iff_eq,a];split<;>rfl
theorem L7{β:Type}{e:β->D}{k:Int}{x:β}:∀{l:List (Int×β)},NG (.int .i64 k) (e x) (em e l)=em e (mpt k x l)
 |[]=>Caa rfl rfl
 |(q,y)::l=>by
  have a:=L7 (e:=e) (k:=k) (x:=x) (l:=l);simp only[em]at a;simp only[em,cab,NG,IA,mpt,beq_iff_eq,a];split<;>rfl
theorem all_em{e:β->D}{l:List (Int×β)}:((em e l).all λq=>isKey 0 q.1)=true:=by
 simp[em,isKey]
theorem em_nil{e:β->D}:em e []=[]:=Caa rfl rfl
theorem em_len{e:β->D}{l:List (Int×β)}:(em e l).length=l.length:=by simp[em]
theorem P5{e:β->D} [Fr e] {l:List (Int×β)}:frM (em e l)=true:=by
 simp only[frM,em,List.all_map,fab];exact λx _=>Fr.h x.2
theorem isKey_i{k:Int}:isKey 0 (.int .i64 k)=true:=Caa rfl rfl
def Jx(b:ByteArray) (i:Int):Option Int:=if h:0<=i/\i.toNat<b.size then some ((b[i.toNat]'h.2).toNat:Int)else none
def px:Nat->List D->Bool
 |0,[]=>true
 |n+1,_::l=>px n l
 |_,_=>false
theorem Ou:∀{n:Nat}{l:List D},px n l=true↔l.length=n
 |0,[]=>by simp[px]
 |n+1,_::l=>by simp[px,Ou (n:=n) (l:=l)]
 |0,_::_=>by simp[px]
 |_+1,[]=>by simp[px]
def GB:Nat->Nat->List D->Bool
 |0,0,_=>true
 |0,n+1,_::l=>GB 0 n l
 |o+1,n,_::l=>GB o n l
 |_,_,[]=>false
theorem Fv:∀{o n:Nat}{l:List D},GB o n l=true↔o+n<=l.length
 |0,0,l=>by simp[GB]
 |0,n+1,_::l=>by simp[GB,Fv (o:=0) (n:=n) (l:=l)]
 |o+1,n,_::l=>by simp[GB,Fv (o:=o) (n:=n) (l:=l)];omega
 |0,n+1,[]=>by simp[GB]
 |o+1,n,[]=>by simp[GB]
theorem li_nil:px 0 []=true:=Caa rfl rfl
theorem li_cons{n:Nat}{d:D}{l:List D}:px (n+1) (d::l)=px n l:=Caa rfl rfl
theorem h2_z{l:List D}:GB 0 0 l=true:=by cases l<;>rfl
theorem h2_n{n:Nat}{d:D}{l:List D}:GB 0 (n+1) (d::l)=GB 0 n l:=Caa rfl rfl
theorem h2_o{o n:Nat}{d:D}{l:List D}:GB (o+1) n (d::l)=GB o n l:=by cases n<;>rfl
theorem q_mv:type_of% @fa.eq_1:=by intros;exact Caa rfl rfl
theorem q_pick:type_of% @fa.eq_2:=by intros;exact Caa rfl rfl
theorem q_bin:type_of% @fa.eq_3:=by intros;exact Caa rfl rfl
theorem q_beq:type_of% @fa.eq_4:=by intros;exact Caa rfl rfl
theorem q_un:type_of% @fa.eq_5:=by intros;exact Caa rfl rfl
theorem q_conv:type_of% @fa.eq_6:=by intros;exact Caa rfl rfl
theorem q_alloc:type_of% @fa.eq_7:=by intros;exact Caa rfl rfl
theorem q_box{s:St}{S:Nat}:fa s (.box S x)=if(s.ev x).ok=true/\px S (s.ev x).cells=true then some (.ref s.m.length 0 0 0,s.m++[.live S 0 [s.ev x]])else none:=by simp only[Ou,Fv];rfl
theorem q_build:type_of% @fa.eq_9:=by intros;exact Caa rfl rfl
theorem P7:type_of% @fa.eq_10:=by intros;exact Caa rfl rfl
theorem q_load{s:St}{A:Bool}{n:Nat}:fa s (.load A n x) =
 match s.ev x with
 |.pt d=>
  match A,d with
  |true,.agg l=>if px n l=true then some (d,s.m)else none
  |true,_=>none
  |false,.agg _=>none
  |false,d=>if d.ok=true then some (d,s.m)else none
 |.ref id Oa idx sub=>
  match s.m[id]? with
  |some (.live _ a l)=>if a=Oa then(l[idx]?).bind λd=>if d.ok=true then(part A n sub d.cells).map λr=>(r,s.m)else none else none
  |_=>none
 |_=>none:=by simp only[Ou,Fv];rfl
theorem q_store{s:St}{n:Nat}{y:Operand}:fa s (.store n x y) =
 match s.ev x with
 |.ref id Oa idx sub=>
  match s.m[id]? with
  |some (.live S a l)=>
   if a=Oa/\(s.ev y).ok=true/\px n (s.ev y).cells=true then
    (l[idx]?).bind λd=>if d.ok=true/\0<n/\GB sub n d.cells=true then some (.dead,s.m.set id (.live S a (l.set idx (d.Eg sub (s.ev y).cells))))else none
   else none
  |_=>none
 |_=>none:=by simp only[Ou,Fv];rfl
theorem q_nilc:type_of% @fa.eq_13:=by intros;exact Caa rfl rfl
theorem q_slice:type_of% @fa.eq_14:=by intros;exact Caa rfl rfl
theorem q_faddr:type_of% @fa.eq_15:=by intros;exact Caa rfl rfl
theorem q_field:type_of% @fa.eq_16:=by intros;exact Caa rfl rfl
theorem q_iaddr:type_of% @fa.eq_17:=by intros;exact Caa rfl rfl
theorem q_aaddr:type_of% @fa.eq_18:=by intros;exact Caa rfl rfl
theorem q_index:type_of% @fa.eq_19:=by intros;exact Caa rfl rfl
theorem aZ:type_of% @fa.eq_20:=by intros;exact Caa rfl rfl
theorem q_len:type_of% @fa.eq_21:=by intros;exact Caa rfl rfl
theorem q_slen:type_of% @fa.eq_22:=by intros;exact Caa rfl rfl
theorem O7:type_of% @fa.eq_23:=by intros;exact Caa rfl rfl
theorem cZ:type_of% @fa.eq_24:=by intros;exact Caa rfl rfl
theorem Q7:type_of% @fa.eq_25:=by intros;exact Caa rfl rfl
theorem q_fail:type_of% @fa.eq_26:=by intros;exact Caa rfl rfl
theorem q_mm:type_of% @fa.eq_27:=by intros;exact Caa rfl rfl
theorem q_ceq:type_of% @fa.eq_28:=by intros;exact Caa rfl rfl
theorem q_strb:type_of% @fa.eq_29:=by intros;exact Caa rfl rfl
theorem q_sidx{s:St}{i:Operand}:fa s (.Jx x i)=(match s.ev x,s.ev i with
 |.v (.string b),.v (.int _ k)=>(Jx b k).map λn=>(D.v (.int .u8 n),s.m)
 |_,_=>none):=by
 simp only[fa];generalize s.ev x=a;generalize s.ev i=c;split
 .rename_i b k' k;by_cases h:0<=k/\k.toNat<b.size<;>simp[Jx,h]
 .rename_i hx;split
  .exact(hx _ _ _ rfl rfl).elim
  .rfl
theorem R7:type_of% @fa.eq_31:=by intros;exact Caa rfl rfl
theorem q_mkmap:type_of% @fa.eq_32:=by intros;exact Caa rfl rfl
theorem q_mlook{s:St}{K:Nat}{ok:Bool}{z:D}{k:Operand}:fa s (.mlook K ok z x k) =
 match s.ev k with
 |.v a=>
  if isKey K a=true then
   match s.ev x with
   |.v (.map none)=>some (if ok then .tup [z,.v (.bool false)]else z,s.m)
   |.mp id=>
    match s.m[id]? with
    |some (.mp es)=>
     if(es.all λe=>isKey K e.1)=true then
      L6 ok z s.m (BD a es)
     else none
    |_=>none
   |_=>none
  else none
 |_=>none:=by
 simp only[fa,L6];rfl
theorem q_mput:type_of% @fa.eq_34:=by intros;exact Caa rfl rfl
theorem q_mlen:type_of% @fa.eq_35:=by intros;exact Caa rfl rfl
theorem q_trunc:type_of% @fa.eq_36:=by intros;exact Caa rfl rfl
theorem q_mkifc:type_of% @fa.eq_37:=by intros;exact Caa rfl rfl
theorem dZ:type_of% @fa.eq_38:=by intros;exact Caa rfl rfl
theorem q_clr:type_of% @fa.eq_39:=by intros;exact Caa rfl rfl
theorem q_capn:type_of% @fa.eq_40:=by intros;exact Caa rfl rfl
theorem q_nileq:type_of% @fa.eq_41:=by intros;exact Caa rfl rfl
theorem q_mkapp:type_of% @fa.eq_42:=by intros;exact Caa rfl rfl
def gQ(p:Prop) (a:St->Prop) (s1:St) (b:St->Prop) (s2:St):Prop:=gP p (a s1) (b s2)
theorem gQ_T{a b:St->Prop}:gQ True a s1 b s2=a s1:=gP_T
theorem gQ_F{b a:St->Prop}:gQ False b s1 a s2=a s2:=gP_F
def gD(d:D) (b:Bool) (e:St->Prop) (s1:St) (a:St->Prop) (s2 s0:St):Prop:=
 match d with
 |.v (.bool c)=>gQ (c=b) e s1 a s2
 |.v _=>a s0
 |_=>False
theorem gD_bool{c b:Bool}{a d:St->Prop}:gD (.v (.bool c)) b a s1 d s2 s0=gQ (c=b) a s1 d s2:=Caa rfl rfl
theorem gD_unit{b:Bool}{c a:St->Prop}:gD (.v (.tuple #[])) b c s1 a s2 s0=a s0:=Caa rfl rfl
theorem Q5{b:Bool}{c a:St->Prop}:gD (.v undef) b c s1 a s2 s0=a s0:=Caa rfl rfl
section
variable {t:List D} {m:List Ent} {i:Nat} {b:Bool} {dst:Option Tmp} {l:List RI} {K:St->Prop} {ins:I} {k q:Nat} {args:List Operand}
theorem U2:Oi P (.op dst (some (i,b)) ins::l) K ⟨t,m⟩=gD (t.getD i .dead) b (Oi P (.op dst none ins::l) K) ⟨t.set i (.v (.bool b)),m⟩ (Oi P l K) (St.put ⟨t.set i (.v (.bool (!b))),m⟩ dst (.v undef)) (St.put ⟨t,m⟩ dst (.v undef)):=by
 rw[V2];simp only[gate,gD,gQ,gB,iV]
 cases h:t.getD i .dead with
 |v x=>cases x<;>simp[gP]<;>cases b<;>simp
 |_=>rfl
theorem TS:Oi P (.call dst (some (i,b)) (.func k) args::l) K ⟨t,m⟩=gD (t.getD i .dead) b (Oi P (.call dst none (.func k) args::l) K) ⟨t.set i (.v (.bool b)),m⟩ (Oi P l K) (St.put ⟨t.set i (.v (.bool (!b))),m⟩ dst (.v undef)) (St.put ⟨t,m⟩ dst (.v undef)):=by
 rw[DP];simp only[gate,gD,gQ,gB,fJ]
 cases h:t.getD i .dead with
 |v x=>cases x<;>simp[gP]<;>cases b<;>simp
 |_=>rfl
theorem R5{t:List D}{i:Nat}{b c:Bool}(h:t.getD i .dead=.v (.bool c)) {Y N:List D->Prop}:gP (c=b) (Y t) (N t)=gP (c=b) (Y (t.set i (.v (.bool b)))) (N (t.set i (.v (.bool (!b))))):=by
 have a:=MF h (by simp);by_cases hc:c=b
 .subst hc;rw[a];simp[gP]
 .have:(!b)=c:=by cases b<;>cases c<;>simp_all
  rw[this,a];simp[gP,hc]
theorem US:Oi P (.call dst none (.tmp i) args::l) K ⟨t,m⟩=(match t.getD i .dead with|.fn k first caps=>Cf P k (first++args.map (St.ev ⟨t,m⟩)++caps) m (KO (Oi P l K) ⟨t,m⟩ dst)|_=>False):=by
 simp only[Oi,gate,St.ec,St.ev]
 first|done|(cases t.getD i .dead<;>rfl)
theorem DrX_opD:fA P (q+1) (.op dst (some (i,b)) ins::l) K ⟨t,m⟩=gD (t.getD i .dead) b (fA P (q+1) (.op dst none ins::l) K) ⟨t.set i (.v (.bool b)),m⟩ (fA P q l K) (St.put ⟨t.set i (.v (.bool (!b))),m⟩ dst (.v undef)) (St.put ⟨t,m⟩ dst (.v undef)):=by
 rw[DrX_opg];simp only[gate,gD,gQ,X1]
 cases h:t.getD i .dead with
 |v x=>
  cases x with
  |bool c=>exact R5 h (Y:=λt=>Ys (fa ⟨t,m⟩ ins) (KO (fA P q l K) ⟨t,m⟩ dst)) (N:=λt=>fA P q l K (St.put ⟨t,m⟩ dst (.v undef)))
  |_=>cases b<;>simp[gP]
 |_=>rfl
theorem mX:fA P (q+1) (.call dst (some (i,b)) (.func k) args::l) K ⟨t,m⟩=gD (t.getD i .dead) b (fA P (q+1) (.call dst none (.func k) args::l) K) ⟨t.set i (.v (.bool b)),m⟩ (fA P q l K) (St.put ⟨t.set i (.v (.bool (!b))),m⟩ dst (.v undef)) (St.put ⟨t,m⟩ dst (.v undef)):=by
 rw[RS];simp only[gate,gD,gQ,tM]
 cases h:t.getD i .dead with
 |v x=>
  cases x with
  |bool c=>exact R5 h (Y:=λt=>EM P k (args.map (St.ev ⟨t,m⟩)) (fA P q l K) ⟨t,m⟩ dst) (N:=λt=>fA P q l K (St.put ⟨t,m⟩ dst (.v undef)))
  |_=>cases b<;>simp[gP]
 |_=>rfl
end
section
variable {t:List D} {m m':List Ent} {i:Nat} {x:Value} {f:FuncId} {g:Nat} {b c:Bool} {d d':D} {k n:Nat} {R:St->Prop} {o:Operand} {s:St}
theorem st_tmp:St.ev ⟨t,m⟩ (.tmp i)=t.getD i .dead:=Caa rfl rfl
theorem baa:St.ev s (.const x)=.v x:=Caa rfl rfl
theorem st_func:St.ev s (.func f)=.fn f [] []:=Caa rfl rfl
theorem ZY:St.put ⟨t,m⟩ (some i) d=⟨t.set i d,m⟩:=Caa rfl rfl
theorem YY:St.put s none d=s:=Caa rfl rfl
theorem KO_some:KO R ⟨t,m⟩ (some i) d m'=R ⟨t.set i d,m'⟩:=Caa rfl rfl
theorem KO_none:KO R ⟨t,m⟩ none d m'=R ⟨t,m'⟩:=Caa rfl rfl
theorem yY:gate ⟨t,m⟩ (some (i,b))=(match t.getD i .dead with|.v (.bool c)=>some (some (c,b))|.v _=>some (some (!b,b))|_=>none):=Caa rfl rfl
theorem I7:gB ⟨t,m⟩ (some (i,b)) c=(match t.getD i .dead with|.v (.bool _)=>⟨t.set i (.v (.bool c)),m⟩|_=>⟨t,m⟩):=Caa rfl rfl
theorem FX{l:List D}:D.cells (.agg l)=l:=Caa rfl rfl
theorem cells_v:D.cells (.v x)=[.v x]:=Caa rfl rfl
theorem Z3{l:List D}:D.cells (.sl n l)=[.sl n l]:=Caa rfl rfl
theorem nG:D.cells (.own i k)=[.own i k]:=Caa rfl rfl
theorem jT{a b:Nat}:D.cells (.view i k a b)=[.view i k a b]:=Caa rfl rfl
theorem GX{a b:Nat}:D.cells (.ref i k a b)=[.ref i k a b]:=Caa rfl rfl
theorem Y3:D.cells (.pt d)=[.pt d]:=Caa rfl rfl
theorem W3{a b:List D}:D.cells (.fn f a b)=[.fn f a b]:=Caa rfl rfl
theorem X3:D.cells (.mp i)=[.mp i]:=Caa rfl rfl
theorem ok_agg{l:List D}:D.ok (.agg l)=true:=Caa rfl rfl
theorem ok_v:D.ok (.v x)=one x:=Caa rfl rfl
theorem ok_sl{l:List D}:D.ok (.sl n l)=true:=Caa rfl rfl
theorem ok_own:D.ok (.own i k)=true:=Caa rfl rfl
theorem ok_view{a b:Nat}:D.ok (.view i k a b)=true:=Caa rfl rfl
theorem ok_ref{a b:Nat}:D.ok (.ref i k a b)=true:=Caa rfl rfl
theorem ok_pt:D.ok (.pt d)=true:=Caa rfl rfl
theorem ok_fn{a b:List D}:D.ok (.fn f a b)=true:=Caa rfl rfl
theorem ok_mp:D.ok (.mp i)=true:=Caa rfl rfl
theorem one_int{j:IntKind}{z:Int}:one (.int j z)=true:=Caa rfl rfl
theorem E7:one (.bool b)=true:=Caa rfl rfl
theorem one_str{z:ByteArray}:one (.string z)=true:=Caa rfl rfl
theorem one_sl{a b}:one (.slice none a b)=true:=Caa rfl rfl
theorem one_map:one (.map none)=true:=Caa rfl rfl
theorem one_ptr:one (.pointer none)=true:=Caa rfl rfl
theorem len_nil:qd m (.v (.slice none 0 0))=some 0:=Caa rfl rfl
theorem len_sl{l:List D}:qd m (.sl n l)=some l.length:=Caa rfl rfl
theorem len_own:qd m (.own i k)=(match m[i]? with|some (.live _ a l)=>if a=k then some l.length else none|_=>none):=Caa rfl rfl
theorem K6{a b:Nat}:qd m (.view i k a b)=(match m[i]? with|some _=>some b|none=>none):=Caa rfl rfl
theorem con_nil:contents n m (.v (.slice none 0 0))=some []:=Caa rfl rfl
theorem con_sl{l:List D}:contents n m (.sl k l)=(if k=n then some l else none):=Caa rfl rfl
theorem con_own:contents n m (.own i k)=(match m[i]? with|some (.live S' a l)=>if S'=n/\a=k then some l else none|_=>none):=Caa rfl rfl
theorem K4{a b:Nat}:contents n m (.view i k a b)=(match m[i]? with|some (.live S' c l)=>if S'=n/\c=k/\a+b<=l.length then some ((l.drop a).take b)else none|_=>none):=Caa rfl rfl
theorem part_t{l:List D}:part true n off l=(if GB off n l=true then some (.agg ((l.drop off).take n))else none):=by simp only[Fv];rfl
theorem part_f{l:List D}:part false n off l=l[off]?:=Caa rfl rfl
theorem upd_agg{l:List D}{a:Nat}:D.Eg (.agg l) a r=.agg (Ds l a r):=Caa rfl rfl
theorem upd_v{a:Nat}:D.Eg (.v x) a r=r.headD .dead:=Caa rfl rfl
theorem upd_sl{l:List D}{a:Nat}:D.Eg (.sl n l) a r=r.headD .dead:=Caa rfl rfl
theorem upd_own{a:Nat}:D.Eg (.own i k) a r=r.headD .dead:=Caa rfl rfl
theorem upd_pt{a:Nat}:D.Eg (.pt d) a r=r.headD .dead:=Caa rfl rfl
theorem upd_ref{a b c:Nat}:D.Eg (.ref i k b c) a r=r.headD .dead:=Caa rfl rfl
theorem head_cons{e:D}:(d::r).headD e=d:=Caa rfl rfl
theorem W9{l:List D}:Ds (d::l) 0 (d'::r)=d'::Ds l 0 r:=by simp[Ds]
theorem X9{l:List D}:Ds (d::l) (n+1) r=d::Ds l n r:=by simp[Ds,Nat.add_right_comm]
theorem SU{l:List D}:Ds l 0 []=l:=by simp[Ds]
theorem DX{l:List D}:ew s [] l=some l:=Caa rfl rfl
theorem fT{l:List D}{ps:List (Nat×Nat×Operand)}:ew s ((off,n,o)::ps) l=(if(s.ev o).ok=true/\px n (s.ev o).cells=true/\GB off n l=true then ew s ps (Ds l off (s.ev o).cells)else none):=by simp only[Ou,Fv];rfl
theorem bsl_nil{l:List D}:Kc s n [] l=some l:=Caa rfl rfl
theorem N3{l:List D}{ps:List (Nat×Operand)}:Kc s n ((i,o)::ps) l=(if(s.ev o).ok=true/\px n (s.ev o).cells=true/\GB i 1 l=true then Kc s n ps (l.set i (s.ev o))else none):=by simp only[Ou,Fv];rfl
theorem K3:bound s n none=some n:=Caa rfl rfl
theorem L3:bound s n (some o)=(match s.ev o with|.v (.int _ n)=>if 0<=n then some n.toNat else none|_=>none):=Caa rfl rfl
theorem sli_nil:pw n m (.v (.slice none 0 0)) lo hi=(if lo=0/\hi=0 then some (.v (.slice none 0 0))else none):=Caa rfl rfl
theorem sli_sl{l:List D}:pw n m (.sl k l) lo hi=(if k=n/\lo<=hi/\hi<=l.length then some (.sl n ((l.drop lo).take (hi-lo)))else none):=Caa rfl rfl
theorem sli_own:pw n m (.own i k) lo hi=(match m[i]? with|some (.live S' a l)=>if S'=n/\a=k/\lo<=hi/\hi<=l.length then some (.view i k lo (hi-lo))else none|_=>none):=Caa rfl rfl
theorem V9{a b:Nat}:pw n m (.view i k a b) lo hi=(match m[i]? with|some (.live S' c l)=>if S'=n/\c=k/\lo<=hi/\hi<=b/\a+b<=l.length then some (.view i k (a+lo) (hi-lo))else none|_=>none):=Caa rfl rfl
theorem lvs_nil:leaves []=some []:=Caa rfl rfl
theorem O6{l:List D}:leaves (.v x::l)=(leaves l).map (x::·):=Caa rfl rfl
theorem eql_int{j k:IntKind}{a b:Int}:fw 0 (.v (.int j a)) (.v (.int k b))=(if j=k then some (a==b)else none):=Caa rfl rfl
theorem G5{a b:Bool}:fw 1 (.v (.bool a)) (.v (.bool b))=some (a==b):=Caa rfl rfl
theorem TD{a b:ByteArray}:(a.toList==b.toList)=decide (a=b):=by
 by_cases h:a=b
 .subst h;simp
 .rw[decide_eq_false h,beq_eq_false_iff_ne];exact λhe=>h (by cases a;cases b;simp only[ByteArray.toList_eq]at he;simpa using he)
theorem eql_str{a b:ByteArray}:fw 2 (.v (.string a)) (.v (.string b))=some (decide (a=b)):=by
 rw[←TD];rfl
theorem str_eq{a b:ByteArray}:Rh (binOp .eql 0 (.string a) (.string b))=some (.bool (decide (a=b))):=by
 rw[←TD];rfl
theorem str_ne{a b:ByteArray}:Rh (binOp .neq 0 (.string a) (.string b))=some (.bool (!decide (a=b))):=by
 rw[←TD];rfl
theorem eqs_nil:Ud [] [] []=some true:=Caa rfl rfl
theorem H5{ks:List Nat}{xs ys:List D}{e:D}:Ud (k::ks) (d::xs) (e::ys)=(match fw k d e,Ud ks xs ys with|some a,some b=>some (a&&b)|_,_=>none):=Caa rfl rfl
section
variable {j:IntKind} {a b:Int}
theorem bj_add:Yh .add j a j b=some (.int j (aa j (a+b))):=by simp[Yh]
theorem bj_sub:Yh .sub j a j b=some (.int j (aa j (a-b))):=by simp[Yh]
theorem bj_mul:Yh .mul j a j b=some (.int j (aa j (a*b))):=by simp[Yh]
theorem bj_eql:Yh .eql j a j b=some (.bool (a==b)):=by simp[Yh]
theorem bj_neq:Yh .neq j a j b=some (.bool (a !=b)):=by simp[Yh]
theorem bj_lss:Yh .lss j a j b=some (.bool (decide (a<b))):=by simp[Yh]
theorem bj_leq:Yh .leq j a j b=some (.bool (decide (a<=b))):=by simp[Yh]
theorem bj_gtr:Yh .gtr j a j b=some (.bool (decide (b<a))):=by simp[Yh]
theorem bj_geq:Yh .geq j a j b=some (.bool (decide (b<=a))):=by simp[Yh]
theorem bj_quo:Yh .quo j a j b=if b=0 then none else some (.int j (aa j (a.tdiv b))):=by
 by_cases h:b=0<;>simp[Yh,h]
theorem bj_rem:Yh .rem j a j b=if b=0 then none else some (.int j (a.tmod b)):=by
 by_cases h:b=0<;>simp[Yh,h]
end
theorem bne_F{b:Bool}:(b !=false)=b:=by cases b<;>rfl
theorem bne_T{b:Bool}:(b !=true) = !b:=by cases b<;>rfl
theorem not_F{b:Bool}:((!b)=false)=(b=true):=by cases b<;>simp
theorem not_T{b:Bool}:((!b)=true)=(b=false):=by cases b<;>simp
theorem WK:Db s []=some []:=Caa rfl rfl
theorem XK{l:List RV}:Db ⟨t,m⟩ (.tmp i::l)=(match Db ⟨t,m⟩ l with|some ds=>some (t.getD i .dead::ds)|none=>none):=by
 simp only[Db,Zx];cases Db ⟨t,m⟩ l<;>rfl
theorem ZG{l:List RV}:Db ⟨t,m⟩ (.cell b n i::l)=(match fa ⟨t,m⟩ (.load b n (.tmp i)),Db ⟨t,m⟩ l with|some (d,_),some ds=>some (d::ds)|_,_=>none):=by
 simp only[Db,Zx];cases fa ⟨t,m⟩ (.load b n (.tmp i))<;>cases Db ⟨t,m⟩ l<;>rfl
end
def zx:=(ak (ak (ak (ak (ak (ak (ak (ak (ak @KL_go @KL_brk) (ak @KL_ret @KL_out)) (ak (ak @wM @KJ_exit) (ak @KJ_ret @q_mv))) (ak (ak (ak @q_pick @q_bin) (ak @q_beq @q_un)) (ak (ak @q_conv @q_alloc) (ak @q_box @q_build)))) (ak (ak (ak (ak @P7 @q_load) (ak @q_store @q_nilc)) (ak (ak @q_slice @q_faddr) (ak @q_field @q_iaddr))) (ak (ak (ak @q_aaddr @q_index) (ak @aZ @q_len)) (ak (ak @q_slen @O7) (ak @cZ @Q7))))) (ak (ak (ak (ak (ak @q_fail @q_mm) (ak @q_ceq @q_strb)) (ak (ak @q_sidx @R7) (ak @q_mkmap @q_mlook))) (ak (ak (ak @q_mput @q_mlen) (ak @q_trunc @q_mkifc)) (ak (ak @dZ @q_clr) (ak @q_capn @q_nileq)))) (ak (ak (ak (ak @q_mkapp @gQ_T) (ak @gQ_F @gD_bool)) (ak (ak @gD_unit @Q5) (ak @U2 @TS))) (ak (ak (ak @US @DrX_opD) (ak @mX @st_tmp)) (ak (ak @baa @st_func) (ak @ZY @YY)))))) (ak (ak (ak (ak (ak (ak @KO_some @KO_none) (ak @yY @I7)) (ak (ak @FX @cells_v) (ak @Z3 @nG))) (ak (ak (ak @jT @GX) (ak @Y3 @W3)) (ak (ak @X3 @ok_agg) (ak @ok_v @ok_sl)))) (ak (ak (ak (ak @ok_own @ok_view) (ak @ok_ref @ok_pt)) (ak (ak @ok_fn @ok_mp) (ak @one_int @E7))) (ak (ak (ak @one_str @one_sl) (ak @one_map @one_ptr)) (ak (ak @len_nil @len_sl) (ak @len_own @K6))))) (ak (ak (ak (ak (ak @con_nil @con_sl) (ak @con_own @K4)) (ak (ak @part_t @part_f) (ak @upd_agg @upd_v))) (ak (ak (ak @upd_sl @upd_own) (ak @upd_pt @upd_ref)) (ak (ak @head_cons @W9) (ak @X9 @SU)))) (ak (ak (ak (ak @DX @fT) (ak @bsl_nil @N3)) (ak (ak @K3 @L3) (ak @sli_nil @sli_sl))) (ak (ak (ak @sli_own @V9) (ak @lvs_nil @O6)) (ak (ak @eql_int @G5) (ak @eql_str @str_eq))))))) (ak (ak (ak (ak (ak (ak (ak @str_ne @eqs_nil) (ak @H5 @bj_add)) (ak (ak @bj_sub @bj_mul) (ak @bj_eql @bj_neq))) (ak (ak (ak @bj_lss @bj_leq) (ak @bj_gtr @bj_geq)) (ak (ak @bj_quo @bj_rem) (ak @bne_F @bne_T)))) (ak (ak (ak (ak @not_F @not_T) (ak @WK @XK)) (ak (ak @ZG @oab.{0}) (ak @cac.{0} @neg_int))) (ak (ak (ak @max_int @min_int) (ak @false_and @and_false)) (ak (ak @true_or @or_true) (ak @or_self @false_or))))) (ak (ak (ak (ak (ak @or_false @V3) (ak @eq_self.{1} @Jt)) (ak (ak @gP_T @gP_F) (ak @bne_self_eq_false.{0} @bne_iff_ne.{0}))) (ak (ak (ak @bne_eq_false_iff_eq.{0} @Bool.false_eq_true) (ak @Bool.true_eq_false @false_implies)) (ak (ak @true_implies @implies_true.{1}) (ak @not_true_eq_false @not_false_eq_true)))) (ak (ak (ak (ak @beq_self_eq_true.{0} @T2) (ak @iV @fJ)) (ak (ak @Y1 @X1) (ak @tM @pX))) (ak (ak (ak @KS_exit @KS_ret) (ak @oX @KB_exit)) (ak (ak @KB_ret @G3) (ak @map_ite @Option.bind_some.{0,0})))))) (ak (ak (ak (ak (ak (ak @Nat.mul_one @Int.toNat_natCast) (ak @Int.natCast_nonneg @tupD_one)) (ak (ak @tupD_two @tupD_nil) (ak @Nat.lt_add_one @Nae))) (ak (ak (ak @true_and @and_true) (ak @and_self @Bool.or_false)) (ak (ak @Bool.false_or @Bool.or_true) (ak @Bool.true_or @Bool.or_self)))) (ak (ak (ak (ak @tX @List.getD_cons_succ.{0}) (ak @List.getD_cons_zero.{0} @Waa.{0})) (ak (ak @qab.{0} @bab.{0}) (ak @sab.{0} @List.set_cons_succ.{0}))) (ak (ak (ak @List.set_cons_zero.{0} @cab.{0,0}) (ak @Zac.{0,0} @Cac.{0,0})) (ak (ak @Option.map_none.{0,0} @binJ_r) (ak @decide_true @cond_true.{1}))))) (ak (ak (ak (ak (ak @cond_false.{1} @if_true.{1}) (ak @if_false.{1} @decide_eq_true_eq)) (ak (ak @decide_eq_false_iff_not @Jab) (ak @Hac @Nat.succ_ne_self))) (ak (ak (ak @Bool.not_true @Bool.not_false) (ak @wrapF_r @decide_false)) (ak (ak @beq_iff_eq.{0} @beq_eq_false_iff_ne.{0}) (ak @ne_eq.{1} @Qab)))) (ak (ak (ak (ak @Nat.add_zero @dac.{0,0}) (ak @Paa @ite_true.{1})) (ak (ak @ite_false.{1} @eab.{0}) (ak @List.drop_succ_cons.{0} @jad.{0}))) (ak (ak (ak @List.take_succ_cons.{0} @List.take_zero.{0}) (ak @List.getElem?_map.{0,0} @List.length_append.{0})) (ak (ak @pab @qad) (ak @rpS @mad.{0})))))))) (ak (ak (ak (ak @Cac.{0,0} @li_nil) (ak @li_cons @h2_z)) (ak (ak @h2_n @h2_o) (ak @Laa @Kr))) (ak (ak (ak @Aq @uG) (ak @aW @all_em)) (ak @isKey_i @em_len))))
theorem sqS_map{α:Type}{e:α->D} [Fr e] {f:D->D->Prop}{l:List α}:cB f (l.map e) (l.map e)=True:=Gj (Fr.l l)
theorem nz_S{x:Nat}:(0=x+1)=False:=by simp
theorem nS_z{x:Nat}:(x+1=0)=False:=by simp
theorem nS_S{x y:Nat}:(x+1=y+1)=(x=y):=by simp
def zq:=(ak (ak (ak (ak (ak (ak @nz_S @nS_z) (ak @nS_S @sqS_map)) (ak (ak @sqL_nil @Y9) (ak @sqS_L @sqS_nil))) (ak (ak (ak @sq_dead @sq_v) (ak @sq_agg @sq_tup)) (ak (ak @sq_nils @sq_sl) (ak @sq_froz @aaa)))) (ak (ak (ak (ak @sq_own @Z9) (ak @sq_ref @sq_view)) (ak (ak @sq_pt @sq_fref) (ak @sq_fn @et_nil))) (ak (ak (ak @et_live @et_new) (ak @F7 @XY)) (ak (ak @Kr @Aq) (ak @sq_mp @et_mp))))) (ak (ak (ak (ak (ak @frM_nil @P5) (ak @em_nil @rpS)) (ak (ak @mad.{0} @and_self) (ak @and_true @true_and))) (ak (ak (ak @or_true @true_or) (ak @eq_self.{1} @oab.{0})) (ak (ak @cac.{0} @dab.{0}) (ak @Vaa.{0,0} @Zac.{0,0})))) (ak (ak (ak (ak @cab.{0,0} @List.map_append.{0,0}) (ak @qab.{0} @exists_eq'.{1})) (ak (ak @Hac @Jab) (ak @bne_iff_ne.{0} @ne_eq.{1}))) (ak @not_false_eq_true @Laa))))
def zs:=(ak (ak (ak @Waa.{0} @qab.{0}) (ak @bab.{0} @sab.{0})) (ak (ak @Qab @Kr) @Aq))
variable {P:Program} {N:Nat}
class StbC (N:Nat) (K:Exit->St->Prop):Prop where
 h:Stb N K
variable {K:Exit->St->Prop}
instance {b:C}{K:Exit->St->Prop}:StbC N (KS P N b K):=⟨stb_S⟩
instance {id:Nat}{K:Exit->St->Prop} [h:StbC N K]:StbC N (KB id K):=⟨stb_B h.h⟩
instance {σ β ρ:Type}{id:Nat}{K:Exit->St->Prop}{S:σ->St}{B:β->St}{z:Ex σ β ρ}:StbC N (KL N id K S B z):=⟨stb_L⟩
instance {X R:Type}{K:Exit->St->Prop}{S:X->St}{z:X⊕R}:StbC N (KJ N K S z):=⟨stb_J⟩
instance {rs:List RV}{o:D}:StbC 0 (jz rs o):=⟨stb_F⟩
theorem T.M6{ρ:Type}[c:StbC N K] {x:C}{s:St}(S:σ->St) (B:β->St) (step:σ->Option (Ex σ β ρ)) (x0:σ) {y:β⊕ρ}(e:Tm.ca step x0=some y) (d:Tells N s (S x0))
 (round:∀a z,step a=some z->(∀v,z=.ret v->y=.inr v)->Tm.T P N x (KL N id K S B z) (S a))
 (rest:∀b,y=.inl b->K .normal (B b)):Tm.T P N (.block id (.loop x)) K s:=T.ca S B step x0 e d c.h round rest
theorem DH:oa []=true:=rfl
theorem WJ{α:Type}{e:α->D} [Fr e] {x:α}{l:List D}(h:oa l=true):oa (e x::l)=true:=by
 simp_all[oa,Fr.h]
theorem N0{k:FuncId}{q l:List D}(hc:oa q=true) (h:oa l=true):oa (.fn k [] q::l)=true:=by
 grind[oa,va]
theorem S3{d d':D}{q:List D}{o:D}(h:Den P k ([d']++q) o) (hq:oa q=true) (hf:f o m) (a:Sq [] [] 9 d d'):Cf P k (d::q) m f:=
 mc (m1:=m) (d1:=o) ⟨(h m).1,λG w vs hv hi=>(h m).2 G w vs ((LF (Mx 9 d d' q q a (Sbs.free hq))).1 vs hv) hi⟩ hf
theorem EndF_n{o:D}{s:St}(h:vQ (Db s rs) s.m o):jz rs o .normal s:=by
 obtain⟨ds,a,h2⟩:=h;exact⟨s,.refl s,ds,a,h2⟩
def ju{α:Type}(l:List α) (hi:Int):Option (List α):=if 0<=hi/\hi.toNat<=l.length then some (l.take hi.toNat)else none
def dH{α:Type}(l:List α) (lo:Int):Option (List α):=if 0<=lo/\lo.toNat<=l.length then some (l.drop lo.toNat)else none
section
variable {α:Type} {e:α->D} {l r x:List α} {i:Int} {y:α} {b:Nat}
theorem idx_f(h:idx l i=some y):0<=i/\l[i.toNat]?=some y:=Gv h
theorem idx_o(h:idx l i=some y):0<=i/\l[i.toNat]?=some y/\i.toNat<l.length:=by
 obtain⟨h1,h2⟩:=Gv h
 grind
theorem jV(h:app b l r=some x):(l.length+r.length)*b<=2 ^ 47/\l.map e++r.map e=x.map e:=by
 obtain⟨h1,rfl⟩:=IP h
 simp_all
theorem M7(h:put l i y=some x):i.toNat<l.length/\(l.map e).set i.toNat (e y)=x.map e:=by
 obtain⟨h0,h1,rfl⟩:=N7 h
 simp_all
theorem dR{n c:Int}(h:UB b y n c=some x):0<=n/\n<=c/\c<=2 ^ 62/\c.toNat*b<=2 ^ 48/\Daa n.toNat (e y)=x.map e:=by
 obtain⟨h0,h1,h2,h3,rfl⟩:=V6 h
 simp_all
theorem subh_f(h:ju l i=some x):0<=i/\i.toNat<=l.length/\((l.map e).drop 0).take (i.toNat-0)=x.map e:=by
 unfold ju at h;split at h
 .rename_i hc;obtain rfl:=wab h
  simp_all
 .cases h
theorem trunc_f(h:ju l i=some x):0<=i/\i.toNat<=l.length/\(l.map e).take i.toNat=x.map e:=by
 obtain⟨h1,h2,h3⟩:=subh_f (e:=e) h
 simp_all
theorem daa(h:dH l i=some x):0<=i/\i.toNat<=l.length/\((l.map e).drop i.toNat).take (l.length-i.toNat)=x.map e:=by
 unfold dH at h;split at h
 .rename_i hc;obtain rfl:=wab h
  grind[List.map_drop,kac]
 .cases h
theorem JV(h:dH l i=some x):0<=i/\i.toNat<=l.length/\((l.map e).take l.length).drop i.toNat=x.map e:=by
 obtain⟨h1,h2,h3⟩:=daa (e:=e) h
 grind[kac]
theorem subl_o(h:dH l i=some x):0<=i/\i.toNat<=l.length/\i.toNat+x.length<=l.length/\l.length-i.toNat=x.length/\((l.map e).drop i.toNat).take x.length=x.map e:=by
 obtain⟨h1,h2,a⟩:=daa (e:=e) h;have h4:l.length-i.toNat=x.length:=by
  have:=congrArg List.length a
  grind
 grind
theorem quo_f{k:IntKind}{a c d:Int}(h:quo k a c=some d):¬c=0/\aa k (a.tdiv c)=d:=by
 grind[quo]
theorem rem_f{k:IntKind}{a c d:Int}(h:rem k a c=some d):¬c=0/\a.tmod c=d:=by
 grind[rem]
end
theorem sG:∀n:Nat,Tm.ds n []=Daa n .dead
 |0=>rfl
 |n+1=>by rw[Aq,sG n];rfl
theorem Den.at{l:List D}{o:D}(n:Nat) (hF:pz P k=some F) (hname:((P.funcs[k]?).map λfn=>fn.name == "runtime.NumGoroutine")=some false) (hf:oa l=true)
 (hn:F.ntmps=l.length+n) (h:T P 0 F.code (jz F.results o) ⟨l++Tm.ds n [],[]⟩):Den P k l o:=by
 grind[Den.of,sG]
section
variable {P:Program} {N:Nat} {ops:Array Oper} {Q:Exit->Act->World->Prop} {K:St->Prop} {rl:List RI} {q:Nat} {ps:List (List Nat)}
def WY(R:List (List Nat)->St->Prop) (fp:List (List Nat)) (p:List Nat) (dst:Option Tmp) (i:I) (s:St):Prop:=
 BE fp (bp s (.op dst none i)) p=true/\Tg s i=true/\Ys (fa s i) (KO (R (fp++[bp s (.op dst none i)])) s dst)
def skY(R:List (List Nat)->St->Prop) (fp:List (List Nat)) (p:List Nat) (dst:Option Tmp) (i:I) (s:St):Prop:=
 BE fp (bp s (.op dst none i)) p=true/\R (fp++[bp s (.op dst none i)]) (s.put dst (.v undef))
def nz(P:Program) (k:FuncId) (ds:List D) (ids:List Nat) (R:St->Prop) (s:St) (dst:Option Tmp):Prop:=
 ∃d,((∀id∈ids,id<s.m.length)/\∀m,(∀id∈ids,m[id]?=s.m[id]?)->CallT P k ds m λd' m'=>d'=d/\m'=m)/\R (s.put dst d)
def B4(P:Program) (R:List (List Nat)->St->Prop) (fp:List (List Nat)) (p:List Nat) (k:FuncId) (dst:Option Tmp) (args:List Operand) (s:St):Prop:=BE fp (Jb s args) p=true/\nz P k (args.map s.ev) (Jb s args) (R (fp++[Jb s args])) s dst
def cnY(R:List (List Nat)->St->Prop) (fp:List (List Nat)) (p:List Nat) (dst:Option Tmp) (args:List Operand) (s:St):Prop:=BE fp (Jb s args) p=true/\R (fp++[Jb s args]) (s.put dst (.v undef))
def My(P:Program):List (List Nat)->Nat->List RI->(St->Prop)->List (List Nat)->St->Prop
 |_,0,l,K,_,s=>Oi P l K s
 |_,_+1,[],_,_,_=>False
 |ps,q+1,.op dst none i::l,K,fp,s=>WY (My P ps.tail q l K) fp (ps.headD []) dst i s
 |ps,q+1,.op dst (some (t,b)) i::l,K,fp,s=>
  gD (s.t.getD t .dead) b (WY (My P ps.tail q l K) fp (ps.headD []) dst i) ⟨s.t.set t (.v (.bool b)),s.m⟩ (skY (My P ps.tail q l K) fp (ps.headD []) dst i) ⟨s.t.set t (.v (.bool (!b))),s.m⟩ s
 |ps,q+1,.call dst none (.func k) args::l,K,fp,s=>B4 P (My P ps.tail q l K) fp (ps.headD []) k dst args s
 |ps,q+1,.call dst (some (t,b)) (.func k) args::l,K,fp,s=>
  gD (s.t.getD t .dead) b (B4 P (My P ps.tail q l K) fp (ps.headD []) k dst args) ⟨s.t.set t (.v (.bool b)),s.m⟩ (cnY (My P ps.tail q l K) fp (ps.headD []) dst args) ⟨s.t.set t (.v (.bool (!b))),s.m⟩ s
 |_,_+1,.call ..::_,_,_,_=>False
theorem XJ{d:D}{b:Bool}{t:List D}(hd:t.getD i .dead=d) {a e:St->Prop}(h:gD d b a ⟨t.set i (.v (.bool b)),m⟩ e ⟨t.set i (.v (.bool (!b))),m⟩ ⟨t,m⟩) :
 match gate ⟨t,m⟩ (some (i,b))with
 |none=>False
 |some none=>True
 |some (some (c,b))=>(c=b->a ⟨t,m⟩)/\(c≠b->e ⟨t,m⟩):=by
 simp only[gate,hd];unfold gD at h
 cases d with
 |v x=>
  cases x with
  |bool c=>
   simp only[gQ]at h⊢;have f:=MF hd (by simp);refine⟨λhc=>?_,λhc=>?_⟩
   .subst hc;have:=h.1 rfl
    simp_all
   .have:=h.2 hc;rwa [show(!b)=c by cases b<;>cases c<;>simp_all,f]at this
  |_=>cases b<;>simpa using h
 |_=>exact h
theorem vH:∀{q:Nat}{l:List RI}{ps:List (List Nat)}{fp:List (List Nat)}{s:St},My P ps q l K fp s->SA P ps fp q l K s
 |0,l,ps,fp,s,h=>by simp only[My]at h;simp only[SA];exact mw h
 |q+1,[],ps,fp,s,h=>by simp only[My]at h
 |q+1,.op dst none i::l,ps,fp,s,h=>by
  simp only[My,WY]at h;obtain⟨e,a,h2⟩:=h;simp only[SA,gate];obtain⟨d,m',j,m⟩:=(Qn _ _).1 h2;exact⟨e,d,m',a,j,vH m⟩
 |q+1,.op dst (some (t,b)) i::l,ps,fp,⟨st,sm⟩,h=>by
  simp only[My]at h;have h:=XJ rfl h;have f:∀s,bp s (.op dst (some (t,b)) i)=bp s (.op dst none i):=λ_=>rfl;simp only[SA];rw[f];split at h
  .simp_all
  .grind[gate]
  .rename_i c g o;simp only[o];by_cases hc:c=g
   .obtain⟨e,a,h2⟩:=h.1 hc;obtain⟨d,m',j,m⟩:=(Qn _ _).1 h2;exact⟨e,λ_=>⟨d,m',a,j,vH m⟩,λhn=>(hn hc).elim⟩
   .obtain⟨e,h2⟩:=h.2 hc;exact⟨e,λhn=>(hc hn).elim,λ_=>vH h2⟩
 |q+1,.call dst none (.func k) args::l,ps,fp,s,h=>by
  simp only[My,B4,nz]at h;obtain⟨a,d,e,h2⟩:=h;simp only[SA,gate];exact⟨a,d,by simp_all,vH h2⟩
 |q+1,.call dst (some (t,b)) (.func k) args::l,ps,fp,⟨st,sm⟩,h=>by
  simp only[My]at h;have h:=XJ rfl h;simp only[SA];have n:St.cv ⟨st,sm⟩ (.func k)=.fn k [] []:=rfl;simp only[n];split at h
  .simp_all
  .grind[gate]
  .rename_i c g o;simp only[o];by_cases hc:c=g
   .obtain⟨a,d,e,h2⟩:=h.1 hc;exact⟨a,λ_=>⟨d,by simp_all,vH h2⟩,λhn=>(hn hc).elim⟩
   .obtain⟨a,h2⟩:=h.2 hc;exact⟨a,λhn=>(hc hn).elim,λ_=>vH h2⟩
 |q+1,.call dst none (.tmp _) args::l,ps,fp,s,h=>by simp only[My]at h
 |q+1,.call dst none (.const _) args::l,ps,fp,s,h=>by simp only[My]at h
 |q+1,.call dst none (.global _) args::l,ps,fp,s,h=>by simp only[My]at h
 |q+1,.call dst (some _) (.tmp _) args::l,ps,fp,s,h=>by simp only[My]at h
 |q+1,.call dst (some _) (.const _) args::l,ps,fp,s,h=>by simp only[My]at h
 |q+1,.call dst (some _) (.global _) args::l,ps,fp,s,h=>by simp only[My]at h
 |q+1,.call dst none (.meth _ _) args::l,ps,fp,s,h=>by simp only[My]at h
 |q+1,.call dst (some _) (.meth _ _) args::l,ps,fp,s,h=>by simp only[My]at h
theorem T.dy(hm:P.follows .mixedOrders=true) {l:List RI}{K:Exit->St->Prop}{s:St}(h:My P [] q l (K .normal) [] s):T P N (.draw q l) K s:=
 T.drawO hm (ny (vH h))
theorem T.ay(hm:P.follows .mixedOrders=true) {bs:List (List Nat)}{l:List RI}{K:Exit->St->Prop}{s:St}(ps:List (List Nat)) (a:oy bs l q ps []=true) (h:My P ps q l (K .normal) [] s):T P N (.any cuts q bs l) K s:=
 T.any2 hm ps a (vH h)
end
section
variable {P:Program}
theorem XN{ds:List D}{o:D}{R:St->Prop}{s:St}(h:Den P k ds' o) (hf:R (s.put dst o)) (a:QD (Sq [] [] 9) ds ds'):nz P k ds [] R s dst:=
 ⟨o,⟨λ_ h=>(by cases h),λm _=>⟨(h m).1,λG w vs hv hi=>(h m).2 G w vs ((LF (Fy (Mx 9) a)).1 vs hv) hi⟩⟩,hf⟩
def Lq(m:List Ent) (d e:D):Prop:=
 match d,e with
 |.own j v,.sl S b=>match m[j]? with|some (.live S' c a)=>S'=S/\c=v/\a=b/\oa a=true|_=>False
 |.view j v lo n,.sl S b=>match m[j]? with|some (.live S' c a)=>S'=S/\c=v/\lo+n<=a.length/\(a.drop lo).take n=b/\oa b=true|_=>False
 |.ref j v x s,.pt e=>match m[j]? with|some (.live _ c a)=>c=v/\s=0/\a[x]?=some e/\va e=true|_=>False
 |d,e=>Sq [] [] 9 d e
theorem sbs_up{l:List D}(h:Sbs [] [] l r) (m:List Ent):Sbs [] m l r:=by
 induction h with
 |nil=>exact .nil
 |same hf h b=>exact .same hf b
 |dead h b=>exact .dead b
 |nils h b=>exact .nils b
 |agg ha h a b=>exact .agg a b
 |tup ha h a b=>exact .tup a b
 |sl ha h a b=>exact .sl a b
 |pt ha h a b=>exact .pt a b
 |fn ha hc h a c b=>exact .fn a c b
 |ifc ha h a b=>exact .ifc a b
 |tD i hi=>simp at hi
 |own hi=>simp at hi
 |ref hi=>simp at hi
 |view hi=>simp at hi
 |mp hi=>simp at hi
 |Yf hm=>simp at hm
 |fview hm=>simp at hm
 |fref hm=>simp at hm
theorem lq_sbs(hm:∀id∈ids,m'[id]?=m[id]?) {d e:D}{l:List D}(h:Lq m d e) (c:(match Ke d with|some j=>ids.contains j|none=>true)=true) (f:Sbs [] m' l r):Sbs [] m' (d::l) (e::r):=by
 unfold Lq at h;split at h
 .rename_i j v S b;simp only[Ke,aab]at c;split at h
  .rename_i S' g a hj;obtain⟨rfl,rfl,rfl,hf⟩:=h;exact .Yf (by simp_all) rfl (Sbs.free hf) f
  simp_all
 .rename_i j v lo n S b;simp only[Ke,aab]at c;split at h
  .rename_i S' g a hj;obtain⟨rfl,rfl,hn,rfl,hf⟩:=h;exact .fview (by simp_all) rfl hn (Sbs.free hf) f
  simp_all
 .rename_i j v x s e;simp only[Ke,aab]at c;split at h
  .rename_i S' g a hj;obtain⟨rfl,rfl,hx,hf⟩:=h;exact .fref (by rw[hm j c];omega) rfl hx (.same hf .nil) f
  simp_all
 .have i:=sbs_up (Mx 9 d e [] [] h .nil) m';exact Sbs.app (a:=[d]) (b:=[e]) i f
def VH(ids:List Nat) (ds:List D):Bool:=ds.all λd=>match Ke d with|some j=>ids.contains j|none=>true
theorem UI{m m':List Ent}{ids:List Nat}(hm:∀id∈ids,m'[id]?=m[id]?):∀{a b:List D},QD (Lq m) a b->VH ids a=true->Sbs [] m' a b
 |[],[],_,_=>.nil
 |d::l,e::r,h,ht=>by
  simp only[VH,nac,Laa]at ht;exact lq_sbs hm h.1 ht.1 (UI hm h.2 ht.2)
 |[],_::_,h,_=>h.elim
 |_::_,[],h,_=>h.elim
theorem kJ{ds:List D}{o:D}{R:St->Prop}{s:St}(h:Den P k ds' o) (hf:R (s.put dst o)) (a:flat o=true) (hi:(ids.all λi=>decide (i<s.m.length))=true) (ht:VH ids ds=true) (b:QD (Lq s.m) ds ds'):nz P k ds ids R s dst:=by
 refine⟨o,⟨λid hid=>?_,λm hm=>?_⟩,hf⟩
 .simp_all
 .exact UD h (UI hm b ht) a ⟨rfl,rfl⟩
variable {m:List Ent} {S x y lo n s:Nat} {b:List D} {e:D}
theorem lq_own:Lq m (.own x y) (.sl S b)=(match m[x]? with|some (.live S' c a)=>S'=S/\c=y/\a=b/\oa a=true|_=>False):=Caa rfl rfl
theorem lq_view:Lq m (.view x y lo n) (.sl S b)=(match m[x]? with|some (.live S' c a)=>S'=S/\c=y/\lo+n<=a.length/\(a.drop lo).take n=b/\oa b=true|_=>False):=Caa rfl rfl
theorem lq_ref{z:Nat}:Lq m (.ref x y z s) (.pt e)=(match m[x]? with|some (.live _ b a)=>b=y/\s=0/\a[z]?=some e/\va e=true|_=>False):=Caa rfl rfl
theorem lq_v:Lq m (.v z) e=Sq [] [] 9 (.v z) e:=Caa rfl rfl
theorem lq_agg{z:List D}:Lq m (.agg z) e=Sq [] [] 9 (.agg z) e:=Caa rfl rfl
theorem lq_sl{z:List D}:Lq m (.sl S z) e=Sq [] [] 9 (.sl S z) e:=Caa rfl rfl
theorem lq_pt{z:D}:Lq m (.pt z) e=Sq [] [] 9 (.pt z) e:=Caa rfl rfl
theorem lq_fr{α:Type}{f:α->D} [Fr f] {l:List α}:oa (l.map f)=true:=Fr.l l
theorem lq_len{α:Type}{f:α->D}{l:List α}:(l.map f).length=l.length:=dac f
end
variable {P:Program}
theorem rd_mv{s:St}:bp s (.op d g (.mv a))=[]:=Caa rfl rfl
theorem sb_mv{s:St}:Tg s (.mv a)=true:=Caa rfl rfl
theorem rd_pick{s:St}:bp s (.op d g (.pick a b c))=[]:=Caa rfl rfl
theorem sb_pick{s:St}:Tg s (.pick a b c)=true:=Caa rfl rfl
theorem rd_bin{s:St}{a:BinOp}:bp s (.op d g (.bin a b c))=[]:=Caa rfl rfl
theorem sb_bin{s:St}{a:BinOp}:Tg s (.bin a b c)=true:=Caa rfl rfl
theorem rd_beq{s:St}{a:Bool}:bp s (.op d g (.beq a b c))=[]:=Caa rfl rfl
theorem sb_beq{s:St}{a:Bool}:Tg s (.beq a b c)=true:=Caa rfl rfl
theorem rd_un{s:St}{a:UnOp}:bp s (.op d g (.un a b))=[]:=Caa rfl rfl
theorem sb_un{s:St}{a:UnOp}:Tg s (.un a b)=true:=Caa rfl rfl
theorem rd_conv{s:St}{a:IntKind}:bp s (.op d g (.conv a b))=[]:=Caa rfl rfl
theorem sb_conv{s:St}{a:IntKind}:Tg s (.conv a b)=true:=Caa rfl rfl
theorem U7{s:St}{a:Nat}{b:D}:bp s (.op d g (.alloc a b))=[]:=Caa rfl rfl
theorem D9{s:St}{a:Nat}{b:D}:Tg s (.alloc a b)=true:=Caa rfl rfl
theorem rd_box{s:St}{a:Nat}:bp s (.op d g (.box a b))=[]:=Caa rfl rfl
theorem sb_box{s:St}{a:Nat}:Tg s (.box a b)=true:=Caa rfl rfl
theorem V7{s:St}{a:List D}{b:List (Nat×Nat×Operand)}:bp s (.op d g (.build a b))=[]:=Caa rfl rfl
theorem E9{s:St}{a:List D}{b:List (Nat×Nat×Operand)}:Tg s (.build a b)=true:=Caa rfl rfl
theorem iZ{s:St}{a:Nat}{b:Nat}{c:D}{e:List (Nat×Operand)}:bp s (.op d g (.bslice a b c e))=[]:=Caa rfl rfl
theorem MZ{s:St}{a:Nat}{b:Nat}{c:D}{d:List (Nat×Operand)}:Tg s (.bslice a b c d)=true:=Caa rfl rfl
theorem rd_load{s:St}{b:Bool}{c:Nat}:bp s (.op d g (.load b c a))=sw s [a]:=Caa rfl rfl
theorem sb_load{s:St}{a:Bool}{b:Nat}:Tg s (.load a b c)=true:=Caa rfl rfl
theorem w8{s:St}{b:Nat}:bp s (.op d g (.store b a c))=sw s [a]:=Caa rfl rfl
theorem P9{s:St}{a:Nat}:Tg s (.store a b c)=true:=Caa rfl rfl
theorem rd_nilc{s:St}:bp s (.op d g (.nilc a))=[]:=Caa rfl rfl
theorem sb_nilc{s:St}:Tg s (.nilc a)=true:=Caa rfl rfl
theorem v8{s:St}{b:Nat}{c:Option Operand}{e:Option Operand}{f:Option Operand}:bp s (.op d g (.slice b a c e f))=sw s [a]:=Caa rfl rfl
theorem O9{s:St}{a:Nat}{c:Option Operand}{d:Option Operand}{e:Option Operand}:Tg s (.slice a b c d e)=true:=Caa rfl rfl
theorem W7{s:St}{a:Bool}{b:Nat}{c:Nat}:bp s (.op d g (.faddr a b c e))=[]:=Caa rfl rfl
theorem F9{s:St}{a:Bool}{b:Nat}{c:Nat}{d:Operand}:Tg s (.faddr a b c d)=true:=Caa rfl rfl
theorem X7{s:St}{a:Bool}{b:Nat}{c:Nat}:bp s (.op d g (.field a b c e))=[]:=Caa rfl rfl
theorem G9{s:St}{a:Bool}{b:Nat}{c:Nat}{d:Operand}:Tg s (.field a b c d)=true:=Caa rfl rfl
theorem Y7{s:St}{b:Nat}:bp s (.op d g (.iaddr b a c))=sw s [a]:=Caa rfl rfl
theorem H9{s:St}{a:Nat}:Tg s (.iaddr a b c)=true:=Caa rfl rfl
theorem T7{s:St}{a:Bool}{b:Nat}{c:Nat}{f:Operand}:bp s (.op d g (.aaddr a b c e f))=[]:=Caa rfl rfl
theorem B9{s:St}{a:Bool}{b:Nat}{c:Nat}{d:Operand}:Tg s (.aaddr a b c d e)=true:=Caa rfl rfl
theorem Z7{s:St}{a:Bool}{b:Nat}{c:Nat}{f:Operand}:bp s (.op d g (.index a b c e f))=[]:=Caa rfl rfl
theorem I9{s:St}{a:Bool}{b:Nat}{c:Nat}{d:Operand}:Tg s (.index a b c d e)=true:=Caa rfl rfl
theorem qU{s:St}{b:Nat}:bp s (.op d g (.extract a b))=[]:=Caa rfl rfl
theorem MU{s:St}{b:Nat}:Tg s (.extract a b)=true:=Caa rfl rfl
theorem rd_len{s:St}:bp s (.op d g (.len a))=sw s [a]:=Caa rfl rfl
theorem sb_len{s:St}:Tg s (.len a)=true:=Caa rfl rfl
theorem rd_slen{s:St}:bp s (.op d g (.slen a))=[]:=Caa rfl rfl
theorem sb_slen{s:St}:Tg s (.slen a)=true:=Caa rfl rfl
theorem gZ{s:St}{c:Nat}{e:Nat}:bp s (.op d g (.append c e a b))=sw s [a,b]:=Caa rfl rfl
theorem LZ{s:St}{b:Nat}{c:Nat}{d:Operand}:Tg s (.append b c a d)=(match s.ev a with|.own ..=>true|_=>false):=Caa rfl rfl
theorem rU{s:St}{a:Nat}{b:Nat}{c:D}{f:Operand}:bp s (.op d g (.mkslice a b c e f))=[]:=Caa rfl rfl
theorem NU{s:St}{a:Nat}{b:Nat}{c:D}{d:Operand}:Tg s (.mkslice a b c d e)=true:=Caa rfl rfl
theorem jZ{s:St}{a:FuncId}{b:List Operand}{c:List Operand}:bp s (.op d g (.mkfunc a b c))=[]:=Caa rfl rfl
theorem NZ{s:St}{a:FuncId}{b:List Operand}{c:List Operand}:Tg s (.mkfunc a b c)=true:=Caa rfl rfl
theorem rd_fail{s:St}  : bp s (.op d g (.fail))=[]:=Caa rfl rfl
theorem sb_fail{s:St}  : Tg s (.fail)=true:=Caa rfl rfl
theorem rd_mm{s:St}{a:Bool}{b:List Operand}:bp s (.op d g (.mm a b))=[]:=Caa rfl rfl
theorem sb_mm{s:St}{a:Bool}{b:List Operand}:Tg s (.mm a b)=true:=Caa rfl rfl
theorem rd_ceq{s:St}{a:Bool}{b:List Nat}:bp s (.op d g (.ceq a b c e))=[]:=Caa rfl rfl
theorem sb_ceq{s:St}{a:Bool}{b:List Nat}{d:Operand}:Tg s (.ceq a b c d)=true:=Caa rfl rfl
theorem rd_strb{s:St}{a:Nat}:bp s (.op d g (.strb a b))=[]:=Caa rfl rfl
theorem sb_strb{s:St}{a:Nat}:Tg s (.strb a b)=true:=Caa rfl rfl
theorem rd_sidx{s:St}:bp s (.op d g (.Jx a b))=[]:=Caa rfl rfl
theorem sb_sidx{s:St}:Tg s (.Jx a b)=true:=Caa rfl rfl
theorem kZ{s:St}{b:Option Operand}{c:Option Operand}:bp s (.op d g (.sslice a b c))=[]:=Caa rfl rfl
theorem OZ{s:St}{b:Option Operand}{c:Option Operand}:Tg s (.sslice a b c)=true:=Caa rfl rfl
theorem o8{s:St}  : bp s (.op d g (.mkmap))=[]:=Caa rfl rfl
theorem L9{s:St}  : Tg s (.mkmap)=true:=Caa rfl rfl
theorem p8{s:St}{b:Nat}{c:Bool}{e:D}{f:Operand}:bp s (.op d g (.mlook b c e a f))=sw s [a]:=Caa rfl rfl
theorem M9{s:St}{a:Nat}{b:Bool}{c:D}{d:Operand}:Tg s (.mlook a b c d e)=true:=Caa rfl rfl
theorem rd_mput{s:St}{a:Nat}:bp s (.op d g (.mput a b c e))=[]:=Caa rfl rfl
theorem sb_mput{s:St}{a:Nat}{d:Operand}:Tg s (.mput a b c d)=true:=Caa rfl rfl
theorem rd_mlen{s:St}:bp s (.op d g (.mlen a))=sw s [a]:=Caa rfl rfl
theorem sb_mlen{s:St}:Tg s (.mlen a)=true:=Caa rfl rfl
theorem y8{s:St}{b:Nat}{c:Option Operand}{e:Option Operand}:bp s (.op d g (.trunc b a c e))=sw s [a]:=Caa rfl rfl
theorem Q9{s:St}{b:Nat}{c:Option Operand}{d:Option Operand}:Tg s (.trunc b a c d)=(match s.ev a with|.own ..=>true|_=>false):=Caa rfl rfl
theorem n8{s:St}{a:TypeId}:bp s (.op d g (.mkifc a b))=[]:=Caa rfl rfl
theorem K9{s:St}{a:TypeId}:Tg s (.mkifc a b)=true:=Caa rfl rfl
theorem sU{s:St}{a:Bool}{b:TypeId}{c:D}:bp s (.op d g (.tassert a b c e))=[]:=Caa rfl rfl
theorem OU{s:St}{a:Bool}{b:TypeId}{c:D}{d:Operand}:Tg s (.tassert a b c d)=true:=Caa rfl rfl
theorem rd_clr{s:St}{a:Nat}{b:D}:bp s (.op d g (.clr a b c))=[]:=Caa rfl rfl
theorem sb_clr{s:St}{a:Nat}{b:D}:Tg s (.clr a b c)=true:=Caa rfl rfl
theorem rd_capn{s:St}:bp s (.op d g (.capn a))=[]:=Caa rfl rfl
theorem sb_capn{s:St}:Tg s (.capn a)=true:=Caa rfl rfl
theorem q8{s:St}{b:Bool}:bp s (.op d g (.nileq b a))=sw s [a]:=Caa rfl rfl
theorem N9{s:St}{a:Bool}:Tg s (.nileq a b)=true:=Caa rfl rfl
theorem l8{s:St}{a:Nat}{b:Nat}{c:D}{f:Operand}:bp s (.op d g (.mkapp a b c e f))=[]:=Caa rfl rfl
theorem J9{s:St}{a:Nat}{b:Nat}{c:D}{d:Operand}:Tg s (.mkapp a b c d e)=true:=Caa rfl rfl
section
variable {ps:List (List Nat)} {q k t:Nat} {b:Bool} {dst:Option Tmp} {i:I} {l:List RI} {K:St->Prop} {fp:List (List Nat)} {s:St} {args:List Operand} {R:List (List Nat)->St->Prop} {p f g:List Nat} {x y:Nat} {o:Operand} {os:List Operand} {st:List D} {m:List Ent} {S:Nat} {r:List D}
theorem dy_zero:My P ps 0 l K fp s=Oi P l K s:=by simp only[My]
theorem dy_op:My P ps (q+1) (.op dst none i::l) K fp s=WY (My P ps.tail q l K) fp (ps.headD []) dst i s:=by simp only[My]
theorem dy_opg:My P ps (q+1) (.op dst (some (t,b)) i::l) K fp ⟨st,m⟩=gD (st.getD t .dead) b (WY (My P ps.tail q l K) fp (ps.headD []) dst i) ⟨st.set t (.v (.bool b)),m⟩ (skY (My P ps.tail q l K) fp (ps.headD []) dst i) ⟨st.set t (.v (.bool (!b))),m⟩ ⟨st,m⟩:=by simp only[My]
theorem dy_call:My P ps (q+1) (.call dst none (.func k) args::l) K fp s=B4 P (My P ps.tail q l K) fp (ps.headD []) k dst args s:=by simp only[My]
theorem Z4:My P ps (q+1) (.call dst (some (t,b)) (.func k) args::l) K fp ⟨st,m⟩=gD (st.getD t .dead) b (B4 P (My P ps.tail q l K) fp (ps.headD []) k dst args) ⟨st.set t (.v (.bool b)),m⟩ (cnY (My P ps.tail q l K) fp (ps.headD []) dst args) ⟨st.set t (.v (.bool (!b))),m⟩ ⟨st,m⟩:=by simp only[My]
theorem opY_q:WY R fp p dst i s=(BE fp (bp s (.op dst none i)) p=true/\Tg s i=true/\Ys (fa s i) (KO (R (fp++[bp s (.op dst none i)])) s dst)):=Caa rfl rfl
theorem skY_q:skY R fp p dst i s=(BE fp (bp s (.op dst none i)) p=true/\R (fp++[bp s (.op dst none i)]) (s.put dst (.v undef))):=Caa rfl rfl
theorem clY_q:B4 P R fp p k dst args s=(BE fp (Jb s args) p=true/\nz P k (args.map s.ev) (Jb s args) (R (fp++[Jb s args])) s dst):=Caa rfl rfl
theorem cnY_q:cnY R fp p dst args s=(BE fp (Jb s args) p=true/\R (fp++[Jb s args]) (s.put dst (.v undef))):=Caa rfl rfl
theorem td_nil:Jb s []=[]:=Caa rfl rfl
theorem td_cons:Jb s (o::os)=Oo (s.ev o)++Jb s os:=Caa rfl rfl
theorem id_v:Oo (.v z)=[]:=Caa rfl rfl
theorem id_agg:Oo (.agg r)=dn r:=Caa rfl rfl
theorem id_tup:Oo (.tup r)=dn r:=Caa rfl rfl
theorem id_sl:Oo (.sl S r)=dn r:=Caa rfl rfl
theorem id_pt{d:D}:Oo (.pt d)=Oo d:=Caa rfl rfl
theorem id_fn{a c:List D}:Oo (.fn k a c)=dn a++dn c:=Caa rfl rfl
theorem id_dead:Oo .dead=[]:=Caa rfl rfl
theorem id_own:Oo (.own x y)=[x]:=Caa rfl rfl
theorem id_ref{v:Nat}:Oo (.ref x y u v)=[x]:=Caa rfl rfl
theorem id_view{v:Nat}:Oo (.view x y u v)=[x]:=Caa rfl rfl
theorem id_nil:dn []=[]:=Caa rfl rfl
theorem id_cons{d:D}:dn (d::r)=Oo d++dn r:=Caa rfl rfl
theorem id_map{α:Type}{f:α->D} [Fr f] {l:List α}:dn (l.map f)=[]:=kx (Fr.l l)
theorem tops_nil:sw s []=[]:=Caa rfl rfl
theorem XZ:sw s (o::os)=(match Ke (s.ev o)with|some id=>id::sw s os|none=>sw s os):=Caa rfl rfl
theorem ap_nil:BE fp f []=true:=Caa rfl rfl
theorem ap_cons:BE fp f (j::p)=(Zs (fp.getD j []) f&&BE fp f p):=Caa rfl rfl
theorem ap_n1:Zs [] f=true:=Caa rfl rfl
theorem ap_n2:Zs (x::g) f=(mB x f&&Zs g f):=Caa rfl rfl
theorem ap_0:mB x []=true:=Caa rfl rfl
theorem ap_s:mB x (y::g)=(oW x y&&mB x g):=Caa rfl rfl
theorem ne_00:oW 0 0=false:=Caa rfl rfl
theorem ne_0S:oW 0 (y+1)=true:=Caa rfl rfl
theorem ne_S0:oW (x+1) 0=true:=Caa rfl rfl
theorem ne_SS:oW (x+1) (y+1)=oW x y:=Caa rfl rfl
theorem top_v:Ke (.v z)=none:=Caa rfl rfl
theorem top_agg:Ke (.agg r)=none:=Caa rfl rfl
theorem top_tup:Ke (.tup r)=none:=Caa rfl rfl
theorem top_sl:Ke (.sl S r)=none:=Caa rfl rfl
theorem top_pt{d:D}:Ke (.pt d)=none:=Caa rfl rfl
theorem top_dead:Ke .dead=none:=Caa rfl rfl
theorem top_own:Ke (.own x y)=some x:=Caa rfl rfl
theorem top_ref{v:Nat}:Ke (.ref x y u v)=some x:=Caa rfl rfl
theorem top_view{v:Nat}:Ke (.view x y u v)=some x:=Caa rfl rfl
theorem hd_n{l:List Nat}{ps:List (List Nat)}:(l::ps).headD []=l:=Caa rfl rfl
theorem tl_n{l:List Nat}{ps:List (List Nat)}:(l::ps).tail=ps:=Caa rfl rfl
theorem hd_0:([]:List (List Nat)).headD []=[]:=Caa rfl rfl
theorem tl_0:([]:List (List Nat)).tail=[]:=Caa rfl rfl
end
def zy:=(ak (ak (ak (ak (ak (ak (ak (ak @rd_mv @sb_mv) (ak @rd_pick @sb_pick)) (ak (ak @rd_bin @sb_bin) (ak @rd_beq @sb_beq))) (ak (ak (ak @rd_un @sb_un) (ak @rd_conv @sb_conv)) (ak (ak @U7 @D9) (ak @rd_box @sb_box)))) (ak (ak (ak (ak @V7 @E9) (ak @iZ @MZ)) (ak (ak @rd_load @sb_load) (ak @w8 @P9))) (ak (ak (ak @rd_nilc @sb_nilc) (ak @v8 @O9)) (ak (ak @W7 @F9) (ak @X7 @G9))))) (ak (ak (ak (ak (ak @Y7 @H9) (ak @T7 @B9)) (ak (ak @Z7 @I9) (ak @qU @MU))) (ak (ak (ak @rd_len @sb_len) (ak @rd_slen @sb_slen)) (ak (ak @gZ @LZ) (ak @rU @NU)))) (ak (ak (ak (ak @jZ @NZ) (ak @rd_fail @sb_fail)) (ak (ak @rd_mm @sb_mm) (ak @rd_ceq @sb_ceq))) (ak (ak (ak @rd_strb @sb_strb) (ak @rd_sidx @sb_sidx)) (ak (ak @kZ @OZ) (ak @o8 @L9)))))) (ak (ak (ak (ak (ak (ak @p8 @M9) (ak @rd_mput @sb_mput)) (ak (ak @rd_mlen @sb_mlen) (ak @y8 @Q9))) (ak (ak (ak @n8 @K9) (ak @sU @OU)) (ak (ak @rd_clr @sb_clr) (ak @rd_capn @sb_capn)))) (ak (ak (ak (ak @q8 @N9) (ak @l8 @J9)) (ak (ak @dy_zero @dy_op) (ak @dy_opg @dy_call))) (ak (ak (ak @Z4 @opY_q) (ak @skY_q @clY_q)) (ak (ak @cnY_q @td_nil) (ak @td_cons @id_v))))) (ak (ak (ak (ak (ak @id_agg @id_tup) (ak @id_sl @id_pt)) (ak (ak @id_fn @id_dead) (ak @id_own @id_ref))) (ak (ak (ak @id_view @id_nil) (ak @id_cons @id_map)) (ak (ak @tops_nil @XZ) (ak @ap_nil @ap_cons)))) (ak (ak (ak (ak @ap_n1 @ap_n2) (ak @ap_0 @ap_s)) (ak (ak @ne_00 @ne_0S) (ak @ne_S0 @ne_SS))) (ak (ak (ak @top_v @top_agg) (ak @top_tup @top_sl)) (ak (ak @top_pt @top_dead) (ak @top_own @top_ref))))))) (ak (ak (ak (ak @top_view @hd_n) (ak @tl_n @hd_0)) (ak (ak @tl_0 @lq_own) (ak @lq_view @lq_ref))) (ak (ak (ak @lq_v @lq_agg) (ak @lq_sl @lq_pt)) (ak @lq_fr @lq_len))))
section
variable {P:Program} {N:Nat} {ops:Array Oper} {Q:Exit->Act->World->Prop} {K:St->Prop} {rl:List RI} {q:Nat} {ps:List (List Nat)} {pl:List (Option Nat)}
def filY(R:List (List Nat)->St->Prop) (fp:List (List Nat)) (p:List Nat) (k:Nat) (dst:Option Tmp) (i:I) (s:St):Prop:=
 BE fp [k] p=true/\match Fp s k i with
  |some (d,e)=>R (fp++[[k]]) (({ s with m:=s.m.set k e }:St).put dst d)
  |none=>False
def rH(P:Program) (k:FuncId) (ds:List D) (ids:List Nat) (fp:List (List Nat)) (p:List Nat) (x:Nat) (f:D->Ent->Prop) (s:St):Prop:=
 (ids.elem x&&BE fp ids p)=true/\∃d e,((∀id∈ids,id<s.m.length)/\∀m,(∀id∈ids,m[id]?=s.m[id]?)->CallT P k ds m λd' m'=>d'=d/\m'=m.set x e)/\f d e
@[congr] theorem callE_congr{P:Program} {k:FuncId} {ds ds':List D} {ids a:List Nat} {fp b:List (List Nat)} {p c:List Nat} {x:Nat} {f:D->Ent->Prop} {s:St} (h1:ds=ds') (h2:ids=a) (h3:fp=b) (h4:p=c):rH P k ds ids fp p x f s=rH P k ds' a b c x f s:=by simp_all
def cwY(P:Program) (R:List (List Nat)->St->Prop) (fp:List (List Nat)) (p:List Nat) (x:Nat) (k:FuncId) (dst:Option Tmp) (args:List Operand) (s:St):Prop:=
 rH P k (args.map s.ev) (Jb s args) fp p x (λd e=>R (fp++[Jb s args]) (({ s with m:=s.m.set x e }:St).put dst d)) s
def Gi(P:Program):List (Option Nat)->List (List Nat)->Nat->List RI->(St->Prop)->List (List Nat)->St->Prop
 |_,_,0,l,K,_,s=>Oi P l K s
 |_,_,_+1,[],_,_,_=>False
 |some k::pl,ps,q+1,.op dst none i::l,K,fp,s=>filY (Gi P pl ps.tail q l K) fp (ps.headD []) k dst i s
 |none::pl,ps,q+1,.op dst none i::l,K,fp,s=>WY (Gi P pl ps.tail q l K) fp (ps.headD []) dst i s
 |none::pl,ps,q+1,.op dst (some (t,b)) i::l,K,fp,s=>
  gD (s.t.getD t .dead) b (WY (Gi P pl ps.tail q l K) fp (ps.headD []) dst i) ⟨s.t.set t (.v (.bool b)),s.m⟩ (skY (Gi P pl ps.tail q l K) fp (ps.headD []) dst i) ⟨s.t.set t (.v (.bool (!b))),s.m⟩ s
 |none::pl,ps,q+1,.call dst none (.func k) args::l,K,fp,s=>B4 P (Gi P pl ps.tail q l K) fp (ps.headD []) k dst args s
 |some x::pl,ps,q+1,.call dst none (.func k) args::l,K,fp,s=>cwY P (Gi P pl ps.tail q l K) fp (ps.headD []) x k dst args s
 |_,_,_+1,_::_,_,_,_=>False
theorem xB:∀{q:Nat}{l:List RI}{pl:List (Option Nat)}{ps:List (List Nat)}{fp:List (List Nat)}{s:St},Gi P pl ps q l K fp s->uq P pl ps fp q l K s
 |0,l,pl,ps,fp,s,h=>by simp only[Gi]at h;simp only[uq];exact mw h
 |q+1,[],pl,ps,fp,s,h=>by simp[Gi]at h
 |q+1,.op dst none i::l,some k::pl,ps,fp,s,h=>by
  simp only[Gi,filY]at h;obtain⟨j,h2⟩:=h;split at h2
  .rename_i d e hf;simp only[uq];exact⟨j,trivial,d,e,hf,xB h2⟩
  simp_all
 |q+1,.op dst none i::l,none::pl,ps,fp,s,h=>by
  simp only[Gi,WY]at h;obtain⟨j,a,h2⟩:=h;simp only[uq,gate];obtain⟨d,m',o,p⟩:=(Qn _ _).1 h2;exact⟨j,d,m',a,o,xB p⟩
 |q+1,.op dst (some (t,b)) i::l,none::pl,ps,fp,⟨st,sm⟩,h=>by
  simp only[Gi]at h;have h:=XJ rfl h;have m:∀s,bp s (.op dst (some (t,b)) i)=bp s (.op dst none i):=λ_=>rfl;simp only[uq];show BE fp (bp _ (.op dst (some (t,b)) i)) (ps.headD [])=true/\_;rw[m];split at h
  .simp_all
  .grind[gate]
  .rename_i c r u;refine⟨?_,?_⟩
   .by_cases hc:c=r
    .exact(h.1 hc).1
    .exact(h.2 hc).1
   rw[u];by_cases hc:c=r
   .obtain⟨j,a,h2⟩:=h.1 hc;obtain⟨d,m',o,p⟩:=(Qn _ _).1 h2;exact⟨λ_=>⟨d,m',a,o,xB p⟩,λhn=>(hn hc).elim⟩
   .obtain⟨j,h2⟩:=h.2 hc;exact⟨λhn=>(hc hn).elim,λ_=>xB h2⟩
 |q+1,.call dst none (.func k) args::l,none::pl,ps,fp,s,h=>by
  simp only[Gi,B4,nz]at h;obtain⟨a,d,j,h2⟩:=h;simp only[uq,gate];exact⟨a,d,by simp_all,xB h2⟩
 |q+1,.op dst g i::l,[],ps,fp,s,h=>by simp[Gi]at h
 |q+1,.op dst (some g) i::l,some k::pl,ps,fp,s,h=>by simp[Gi]at h
 |q+1,.call dst g f args::l,[],ps,fp,s,h=>by simp[Gi]at h
 |q+1,.call dst none (.func k) args::l,some x::pl,ps,fp,s,h=>by
  simp only[Gi,cwY,rH]at h;obtain⟨a,d,e,j,h2⟩:=h;simp only[Laa,List.elem_eq_mem,decide_eq_true_eq]at a;obtain⟨a,n⟩:=a;simp only[uq];exact⟨trivial,a,n,d,e,by simp_all,xB h2⟩
 |q+1,.call dst (some g) f args::l,some x::pl,ps,fp,s,h=>by simp[Gi]at h
 |q+1,.call dst none (.tmp _) args::l,some x::pl,ps,fp,s,h=>by simp[Gi]at h
 |q+1,.call dst none (.const _) args::l,some x::pl,ps,fp,s,h=>by simp[Gi]at h
 |q+1,.call dst none (.global _) args::l,some x::pl,ps,fp,s,h=>by simp[Gi]at h
 |q+1,.call dst none (.meth _ _) args::l,some x::pl,ps,fp,s,h=>by simp[Gi]at h
 |q+1,.call dst (some g) f args::l,none::pl,ps,fp,s,h=>by simp[Gi]at h
 |q+1,.call dst none (.tmp _) args::l,none::pl,ps,fp,s,h=>by simp[Gi]at h
 |q+1,.call dst none (.const _) args::l,none::pl,ps,fp,s,h=>by simp[Gi]at h
 |q+1,.call dst none (.global _) args::l,none::pl,ps,fp,s,h=>by simp[Gi]at h
 |q+1,.call dst none (.meth _ _) args::l,none::pl,ps,fp,s,h=>by simp[Gi]at h
theorem T.ao(hm:P.follows .mixedOrders=true) {bs:List (List Nat)}{l:List RI}{K:Exit->St->Prop}{s:St}(ps:List (List Nat)) (pl:List (Option Nat)) (a:oy bs l q ps pl=true) (b:Yw s.m pl=true) (h:Gi P pl ps q l (K .normal) [] s):T P N (.any cuts q bs l) K s:=
 T.anyO hm ps pl a b (xB h)
def FD:List (Option Nat)->List RI->Bool
 |none::pl,_::l=>FD pl l
 |some _::pl,.call ..::l=>FD pl l
 |[],_=>true
 |_,_=>false
theorem sK:∀{pl:List (Option Nat)}{l:List RI},FD pl l=true->∀i p,pO pl i=some p->∃a b c d,l[i]?=some (.call a b c d)
 |[],l,_,i,p,h=>by grind[pO]
 |none::pl,[],h,_,_,_=>by grind[FD]
 |some _::pl,[],h,_,_,_=>by grind[FD]
 |none::pl,y::l,h,0,p,h2=>by grind[pO]
 |none::pl,y::l,h,i+1,p,h2=>by
  simp only[FD]at h;simpa using sK h i p (by grind[pO])
 |some x::pl,.call a b c d::l,h,0,p,h2=>⟨a,b,c,d,rfl⟩
 |some x::pl,.call a b c d::l,h,i+1,p,h2=>by
  simp only[FD]at h;simpa using sK h i p (by grind[pO])
 |some x::pl,.op a b c::l,h,_,_,_=>by grind[FD]
theorem T.dp(hm:P.follows .mixedOrders=true) {l:List RI}{K:Exit->St->Prop}{s:St}(ps:List (List Nat)) (pl:List (Option Nat)) (c:ps=kB q) (a:FD pl l=true) (b:Yw s.m pl=true) (h:Gi P pl ps q l (K .normal) [] s):T P N (.draw q l) K s:=by
 subst c;exact T.drawP hm (kB q) pl (sK a) EP b (xB h)
end
section
variable {P:Program} {pl:List (Option Nat)} {ps:List (List Nat)} {q k t:Nat} {b:Bool} {dst:Option Tmp} {i:I} {l:List RI} {K:St->Prop} {fp:List (List Nat)} {s:St} {st:List D} {m:List Ent} {args:List Operand} {R:List (List Nat)->St->Prop} {p:List Nat} {z:D} {S:Nat} {x:Operand}
theorem do_zero:Gi P pl ps 0 l K fp s=Oi P l K s:=by simp only[Gi]
theorem do_fil:Gi P (some k::pl) ps (q+1) (.op dst none i::l) K fp s=filY (Gi P pl ps.tail q l K) fp (ps.headD []) k dst i s:=by simp only[Gi]
theorem do_op:Gi P (none::pl) ps (q+1) (.op dst none i::l) K fp s=WY (Gi P pl ps.tail q l K) fp (ps.headD []) dst i s:=by simp only[Gi]
theorem do_opg:Gi P (none::pl) ps (q+1) (.op dst (some (t,b)) i::l) K fp ⟨st,m⟩=gD (st.getD t .dead) b (WY (Gi P pl ps.tail q l K) fp (ps.headD []) dst i) ⟨st.set t (.v (.bool b)),m⟩ (skY (Gi P pl ps.tail q l K) fp (ps.headD []) dst i) ⟨st.set t (.v (.bool (!b))),m⟩ ⟨st,m⟩:=by simp only[Gi]
theorem do_call:Gi P (none::pl) ps (q+1) (.call dst none (.func k) args::l) K fp s=B4 P (Gi P pl ps.tail q l K) fp (ps.headD []) k dst args s:=by simp only[Gi]
theorem Y4{x:Nat}:Gi P (some x::pl) ps (q+1) (.call dst none (.func k) args::l) K fp s=cwY P (Gi P pl ps.tail q l K) fp (ps.headD []) x k dst args s:=by simp only[Gi]
theorem cwY_q{R:List (List Nat)->St->Prop}{p:List Nat}{x:Nat}:cwY P R fp p x k dst args s=rH P k (args.map s.ev) (Jb s args) fp p x (λd e=>R (fp++[Jb s args]) (({ s with m:=s.m.set x e }:St).put dst d)) s:=Caa rfl rfl
theorem filY_q:filY R fp p k dst i s=(BE fp [k] p=true/\match Fp s k i with|some (d,e)=>R (fp++[[k]]) (({ s with m:=s.m.set k e }:St).put dst d)|none=>False):=Caa rfl rfl
theorem O5:Fp s k (.alloc S z)=(match s.m[k]? with|some (.live S' Oa [])=>if S'=S then some (.ref k (Oa+1) 0 0,.live S (Oa+1) [z])else none|_=>none):=Caa rfl rfl
theorem fi_box:Fp s k (.box S x)=(match s.m[k]? with|some (.live S' Oa [])=>if S'=S/\(s.ev x).ok=true/\px S (s.ev x).cells=true then some (.ref k (Oa+1) 0 0,.live S (Oa+1) [s.ev x])else none|_=>none):=by simp only[Ou];rfl
theorem fi_bsl{n:Nat}{qs:List (Nat×Operand)}:Fp s k (.bslice S n z qs)=(match s.m[k]? with|some (.live S' Oa [])=>if S'=S then(Kc s S qs (Daa n z)).map λl=>(.own k (Oa+1),.live S (Oa+1) l)else none|_=>none):=Caa rfl rfl
end
def zo:=(ak (ak (ak (ak @do_zero @do_fil) (ak @do_op @do_opg)) (ak (ak @do_call @Y4) (ak @cwY_q @filY_q))) (ak (ak @O5 @fi_box) @fi_bsl))
theorem gX{G G':Gh}{w w':World}(b:SubF G w G' w') {d d':D}(hd:∀u,VRel G w d u->VRel G' w' d' u) {post:List D}(a:oa post=true) :
 ∀{pre:List D} {us:List Value},oa pre=true->VsRel G w (pre++d::post) us->VsRel G' w' (pre++d'::post) us
 |[],us,_,h=>by
  simp only[qab,VsRel]at h⊢;obtain⟨u,r,rfl,c,h2⟩:=h;exact⟨u,r,rfl,hd u c,VsRel.free b a h2⟩
 |p::pre,us,e,h=>by
  simp only[oa,Laa]at e;simp only[Waa,VsRel]at h⊢;obtain⟨u,r,rfl,c,h2⟩:=h;exact⟨u,r,rfl,VRel.free b e.1 c,gX b hd a e.2 h2⟩
section
variable {P:Program}
end
variable {P:Program}
def CallZ(P:Program) (f:FuncId) (ds:List D) (m:List Ent) (R:D->List Ent->Prop):Prop:=
 Enters P f/\∀(G:Gh) (w:World) (vs:List Value),VsRel G w ds vs->Inv G w m->
  Calls P f vs.toArray w λe w'=>∃v d m' G',e=.returned v/\R d m'/\VRel G' w' d v/\Inv G' w' m'/\StepN 0 G w m G' w' m'
theorem T3{f:FuncId}{ds:List D}(g:pz P f=some F) (hname:((P.funcs[f]?).map λfn=>fn.name == "runtime.NumGoroutine")=some false)
 (h:T P 0 F.code (PD F.results R) ⟨ds++Daa (F.ntmps-ds.length) .dead,m⟩):CallZ P f ds m R:=by
 unfold pz at g;split at g
 .rename_i fn i;split at g
  .rename_i b r hb k;simp only[Faa]at g;obtain⟨c,hc,rfl⟩:=g;refine⟨⟨fn,i,by simp_all,by simp_all⟩,λG w vs hv hi=>?_⟩;refine calls_of_wp i hb ?_;have j:=hv.length;have hr:Rel G w { tmps:=vs.toArray++Array.replicate (fn.ntmps-vs.toArray.size) undef,defers:=[] } ⟨ds++Daa (fn.ntmps-ds.length) .dead,m⟩:=by
    refine⟨?_,hi,rfl⟩;simp only[Array.toList_append,Array.toList_replicate,List.size_toArray,j];exact hv.append (oP _ _ _)
   refine Code.wp_mono ?_ (h b hc G w _ (pab _) hr);rintro e a' w' ⟨s',G',n,a,p⟩;have fin:(∃ds,Db s' r=some ds/\R (Zq ds) s'.m)->a'.defers=[]/\∃v,(results fn a'.tmps).run P w'=.ok v w'/\∃v_1 d m' G',Ending.returned v=.returned v_1/\R d m'/\VRel G' w' d v_1/\Inv G' w' m'/\StepN 0 G w m G' w' m':=by
    rintro⟨es,o,s⟩;obtain⟨v,l,q⟩:=SH (F:=⟨fn.ntmps,r,c⟩) k a o;exact⟨a.defers,v,l,v,_,_,G',rfl,s,q,a.inv,p⟩
   cases e with
   |normal=>exact fin n
   |ret=>exact fin n
   |_=>exact n.elim
  simp_all
 simp_all
theorem frameC{S:Nat}{l:List D}{o:D}
 (q:m[id]?=some (.live S Oa l)) (I:oa pre=true) (z:oa post=true) (hl:oa l=true)
 (h:CallZ P k (pre++.own 0 0::post) [.live S 0 l] λd m'=>Sbs [] m' [d] [o]) :
 CallT P k (pre++.own id Oa::post) m λd m'=>d=o/\m'=m.set id .gone:=by
 refine⟨h.1,λG w vs hv hi=>?_⟩;have hlen:id<m.length:=(gab.1 q).1;obtain⟨eV,eS,eN,eC,eB⟩:=hi.ent id _ q;have E:SubF G w ⟨G.F,1,λ_=>G.B id,λ_=>0,λ_=>G.S id,λ_=>G.N id,λ_=>G.C id⟩ w:=⟨λ_ h=>h,λ_ _=>rfl⟩;have U:=gX E (d:=.own id Oa) (d':=.own 0 0) (λu hu=>by
  simp only[VRel]at hu⊢
  grind) z I hv
 have O:Inv ⟨G.F,1,λ_=>G.B id,λ_=>0,λ_=>G.S id,λ_=>G.N id,λ_=>G.C id⟩ w [.live S 0 l]:=by
  refine⟨rfl,hi.F,?_,?_,hi.gl.bare λ_ h=>h⟩
  .intro i e he
   cases i with
   |zero=>
    simp at he;subst he;refine⟨rfl,eS,eN,eC,?_⟩;rcases eB with h|⟨b,cs,T,g,h2,L,W,Z⟩
    .simp_all
    .exact .inr ⟨b,cs,T,g,h2,L,W,Qa.free E rfl hl Z⟩
   |succ i=>simp at he
  grind
 have c:∀b,Zf ⟨G.F,1,λ_=>G.B id,λ_=>0,λ_=>G.S id,λ_=>G.N id,λ_=>G.C id⟩ [.live S 0 l] b->G.B id=some b:=by
  rintro b ⟨i,e,he,-,J⟩;omega
 refine(h.2 _ w vs U O).mono ?_;rintro e w' ⟨v,d,m',G',rfl,X,hvd,t,a⟩;have live1:(Ent.live S Oa l).isLive=true:=rfl;have Y:=(X.rel t (λi j v h=>by grind)).1 [v] (by simp only[VsRel];simp_all);simp only[VsRel]at Y;obtain⟨u,us,he,g,_⟩:=Y;injection he with he _;subst he;have s:=jL X;simp only[oa,Hac]at s;have H:Le G w ⟨λb=>G'.F b\/Zf G' m' b,G.n,G.B,G.V,G.S,G.N,G.C⟩ w':=by
  refine⟨λb hb=>.inl (a.F b hb),λb hb=>a.heap b hb,Paa _,λi _=>.inl (by simp)⟩
 have A:∀i x,m[i]?=some x->x.isLive=true->∀b,G.B i=some b->b<w.heap.size/\¬G.F b:=λi x hx hl b hb=>(hi.ent i x hx).lt hl hb;have notO:∀i x,m[i]?=some x->x.isLive=true->i≠id->∀b,G.B i=some b->G.B id≠some b:=λi x hx f Q b hb J=>Q (hi.apart i id x _ hx q f live1 b hb J);have p:∀i x,(m.set id .gone)[i]?=some x->(m[i]?=some x/\i≠id)\/(i=id/\x=.gone):=by
  grind
 refine⟨v,o,_,⟨λb=>G'.F b\/Zf G' m' b,G.n,G.B,G.V,G.S,G.N,G.C⟩,rfl,⟨rfl,rfl⟩,?_,⟨by simp[hi.n],?_,?_,?_,t.gl.bare λ_ h=>.inl h⟩,⟨H,a.os,a.tape,a.output,a.size,?_,?_,?_⟩⟩
 .refine VRel.free (G:=ob G' m' []) ⟨?_,λ_ _=>rfl⟩ s g;rintro b (hb|⟨hb,_⟩)
  all_goals simp_all
 .rintro b (hb|hb)
  .exact t.F b hb
  .exact(Zf.lt t hb).1
 .intro i x hx;rcases p i x hx with⟨g,h2⟩|⟨rfl,rfl⟩
  .by_cases f:x.isLive=true
   .refine(hi.ent i x g).mono H (by simp) (λb hb=>?_) (λb hb _ r=>?_)
    .exact a.keep b (A i x g f b hb).1 λho=>notO i x g f h2 b hb (c b ho)
    .rcases r with r|r
     .rcases a.newF b (A i x g f b hb).1 r with h|h
      all_goals grind
     .exact(notO i x g f h2 b hb (c b (a.newB b (A i x g f b hb).1 r))).elim
   .cases x with
    |gone=>trivial
    |_=>grind[Ent.isLive]
  .trivial
 .intro i j x y hx hy K ly b hb M;rcases p i x hx with⟨g,h2⟩|⟨rfl,rfl⟩
  .rcases p j y hy with⟨L,W⟩|⟨rfl,rfl⟩
   .exact hi.apart i j x y g L K ly b hb M
   grind
  grind
 .intro b hb R;exact a.keep b hb λho=>R ⟨id,_,q,live1,c b ho⟩
 .intro b hb r;rcases r with r|r
  .rcases a.newF b hb r with h|h
   .simp_all
   .exact .inr ⟨id,_,q,live1,c b h⟩
  .exact .inr ⟨id,_,q,live1,c b (a.newB b hb r)⟩
 .rintro b hb ⟨i,x,hx,K,J⟩;rcases p i x hx with⟨g,h2⟩|⟨rfl,rfl⟩
  .exact⟨i,x,g,K,J⟩
  .cases K
def cJ(P:Program) (k:Nat) (pre post:List D) (S:Nat) (l:List D) (o:D):Prop:=∀m id Oa,m[id]?=some (.live S Oa l)->CallT P k (pre++.own id Oa::post) m λd m'=>d=o/\m'=m.set id .gone
def W1(P:Program) (k:Nat) (pre post:List D) (S:Nat) (l l':List D) (o:D):Prop:=∀m id Oa,m[id]?=some (.live S Oa l)->CallT P k (pre++.own id Oa::post) m λd m'=>d=o/\m'=m.set id (.live S Oa l')
theorem cJ.at{S:Nat}{l:List D}{o:D}(n:Nat) (j:pz P k=some F) (b:((P.funcs[k]?).map λfn=>fn.name == "runtime.NumGoroutine")=some false)
 (f:oa pre=true) (c:oa post=true) (hl:oa l=true) (hn:F.ntmps=(pre++.own 0 0::post).length+n)
 (h:T P 0 F.code (jz F.results o) ⟨(pre++.own 0 0::post)++Tm.ds n [],[.live S 0 l]⟩):cJ P k pre post S l o:=by
 intro m id Oa hm;refine frameC hm f c hl (T3 j b ?_);rw[hn,Nat.add_sub_cancel_left,←sG];refine T.D4 (h.mono ?_);have key:∀(e:Exit) (s:St),(∀s',PD F.results (λd m'=>Sbs [] m' [d] [o]) e s' = ∃ds,Db s' F.results=some ds/\Sbs [] s'.m [Zq ds] [o])->(∃S,Tells 0 s S/\∃ds,Db S F.results=some ds/\Sbs [] S.m [Zq ds] [o])->yP 0 (PD F.results λd m'=>Sbs [] m' [d] [o]) e s:=by
  intro e s he ⟨S,i,h2⟩ G w a hN hr;obtain⟨G',h3,h4⟩:=Vu i hN hr
  grind
 intro e s g
 cases e with
 |normal=>exact key _ s (λ_=>rfl) g
 |ret=>exact key _ s (λ_=>rfl) g
 |_=>exact(g:False).elim
theorem nV{S:Nat}{l ds:List D}{o:D}(h:cJ P k pre post S l o) (a:ds=pre++.own id Oa::post) (hm:m[id]?=some (.live S Oa l)) (hf:f o (m.set id .gone)):Cf P k ds m f:=by
 subst a;exact mc (h m id Oa hm) hf
theorem callX_W{S:Nat}{l l' ds:List D}{o:D}(h:W1 P k pre post S l l' o) (a:ds=pre++.own id Oa::post) (hm:m[id]?=some (.live S Oa l)) (hf:f o (m.set id (.live S Oa l'))):Cf P k ds m f:=by
 subst a;exact mc (h m id Oa hm) hf
theorem IM{v:Value}(a:Enters P k) (h:∀w,Calls P k vs.toArray w λe w'=>e=.returned v/\w'=w):Den P k (vs.map .v) (.v v):=by
 refine λm=>⟨a,λG w us hv hi=>?_⟩;have:∀(vs us:List Value),VsRel G w (vs.map .v) us->us=vs:=by
  intro vs
  induction vs with
  |nil=>intro us h;simpa [VsRel] using h
  |cons x l ih=>
   intro us h;simp only[cab,VsRel,VRel]at h
   grind
 obtain rfl:=this vs us hv;refine(h w).mono ?_;rintro e w' ⟨rfl,rfl⟩;exact⟨_,_,_,G,rfl,⟨rfl,rfl⟩,by simp[VRel],hi,Step.refl _ _ _⟩
open Go.Sort
variable {P:Program}
def eI(n:Int):D:=.v (.int .i64 n)
theorem ZK{G:Gh}{w:World}{b:Nat}:∀{zs:List Int}{off:Nat},Qa G w b 1 (zs.map eI) off->∀j (h:j<zs.length),w.cell? ⟨b,off+j,none⟩=some (.int .i64 zs[j])
 |[],_,_,j,h=>absurd h (Jad j)
 |z::zs,off,hr,j,h=>by
  simp only[cab,Qa]at hr;obtain⟨⟨u,a,h2,c⟩,d⟩:=hr;simp only[eI,VRel]at a;subst a
  cases j with
  |zero=>exact(c 0 (.int .i64 z) rfl).2
  |succ j=>
   have:=ZK d j (by simp_all)
   grind
theorem IU{G:Gh}{w:World}{b:Nat}:∀{zs:List Int}{off:Nat},(∀j (h:j<zs.length),w.cell? ⟨b,off+j,none⟩=some (.int .i64 zs[j]))->Qa G w b 1 (zs.map eI) off
 |[],_,_=>by simp[Qa]
 |z::zs,off,hr=>by
  simp only[cab,Qa];refine⟨⟨.int .i64 z,by simp[eI,VRel],rfl,?_⟩,IU λj h=>?_⟩
  .intro j c hc
   cases j with
   |zero=>
    have:c=.int .i64 z:=by grind[Value.cells]
    subst this;exact⟨rfl,hr 0 (Nae _)⟩
   |succ j=>grind[Value.cells]
  .have:=hr (j+1) (by simp_all)
   grind
theorem holds_of{b:Nat}{T:TypeId}{zs:List Int}(hb:w.heap[b]?=some (.cells cs T (0,0))) (h:∀j (h:j<zs.length),w.cell? ⟨b,off+j,none⟩=some (.int .i64 zs[j])):Holds (Value.int .i64) w b off zs.toArray:=by
 intro j hj
 grind[World.frozen?]
theorem xW{b:Nat}{T:TypeId}{n:Nat}{os:Array Obj}(hb:w.heap[b]?=some (.cells cs T (0,0))) (hlen:off+ys.length<=cs.size) (hw:w'=grow (putRow (Value.int .i64) (Sort.ahead w n) b off ys.toArray) os) :
 w'.os=w.os/\w'.tape=w.tape/\w'.output=w.output/\w.heap.size<=w'.heap.size/\(∀k,k<w.heap.size->k≠b->w'.heap[k]?=w.heap[k]?)/\
  w'.heap[b]?=some (.cells (putCells (Value.int .i64) off ys.toArray cs) T (0,0))/\∀j (h:j<ys.length),w'.cell? ⟨b,off+j,none⟩=some (.int .i64 ys[j]):=by
 subst hw;have hbs:b<w.heap.size:=by
  grind
 have a:(grow (putRow (Value.int .i64) (Sort.ahead w n) b off ys.toArray) os).heap=w.heap.modify b (onCells (putCells (Value.int .i64) off ys.toArray))++os:=rfl;have c:(grow (putRow (Value.int .i64) (Sort.ahead w n) b off ys.toArray) os).heap[b]?=some (.cells (putCells (Value.int .i64) off ys.toArray cs) T (0,0)):=by
  rw[a,Array.getElem?_append_left (by simp_all),Array.getElem?_modify,if_pos rfl,hb];rfl
 refine⟨rfl,rfl,rfl,?_,?_,c,?_⟩
 all_goals grind[World.cell?,putCells]
theorem iT{k:FuncId}(s:Enters P k) {zs:List Int}(hm:m[id]?=some (.live 1 Oa (zs.map eI))) (hlen:ys.length=zs.length)
 (p:∀w b off cap,Holds (Value.int .i64) w b off zs.toArray->b<w.heap.size->Calls P k #[.slice (some ⟨b,off,none⟩) zs.length cap] w λe w'=>e=.returned (.tuple #[])/\∃n os,w'=grow (putRow (Value.int .i64) (Sort.ahead w n) b off ys.toArray) os)
 (o:∀w cap,Calls P k #[.slice none 0 cap] w λe w'=>e=.returned (.tuple #[])/\w'=w) :
 CallT P k [.own id Oa] m λd m'=>d=.tup []/\m'=m.set id (.live 1 Oa (ys.map eI)):=by
 refine⟨s,λG w vs hv hi=>?_⟩;obtain⟨eV,eS,eN,eC,eB⟩:=hi.ent id _ hm;simp only[VsRel,VRel]at hv;obtain⟨u,r,rfl,⟨a,n,c,rfl,g1,g2,g3⟩,rfl⟩:=hv;obtain⟨rfl,rfl,rfl⟩:=g3 eV;simp only[dac]at eN eC;rcases eB with⟨f,q⟩|⟨b,cs,T,f,t,hb,hc,hr⟩
 .have g:=congrArg Fae q;dsimp only at g;have x:zs=[]:=Uaa (by omega);have v:ys=[]:=Uaa (by omega);subst x v;rw[f,eN];refine(o w _).mono ?_;rintro e w' ⟨rfl,rfl⟩;refine⟨_,_,_,G,rfl,⟨rfl,rfl⟩,by simp[VRel,VsRel],?_,?_⟩
  .have:m.set id (.live 1 Oa (([]:List Int).map eI))=m:=by
    apply xac
    grind
   simp_all
  .have:m.set id (.live 1 Oa (([]:List Int).map eI))=m:=by
    apply xac
    grind
   grind[Step.refl]
 .rw[f,eN];have i:b<w.heap.size:=by
   grind
  refine(p w b _ _ (holds_of hb (ZK hr)) i).mono ?_;rintro e w' ⟨rfl,n,os,hw⟩;obtain⟨y,z,A,D,E,F,p7⟩:=xW hb (by omega) hw;have l:=rh (w':=w') hi hm rfl (e':=.live 1 Oa (ys.map eI)) rfl (G.B id) Oa (G.N id) (G.C id) (.inr ⟨eV.symm,rfl,rfl,rfl⟩) y z A D
   (λk hk j=>E k hk (λh=>j (by rw[f,h]))) (λk hk=>.inl hk) (by
    refine⟨by simp[Gh.Eg],by grind[Gh.Eg],by grind[Gh.Eg],by grind[Gh.Eg],.inr ⟨b,_,T,by grind[Gh.Eg],t,F,?_,IU (by grind[Gh.Eg])⟩⟩
    grind[Gh.Eg,putCells])
  exact⟨_,_,_,_,rfl,⟨rfl,rfl⟩,by simp[VRel,VsRel],l.1,l.2⟩
theorem gT{k:FuncId}(s:Enters P k) {zs:List Int}(hm:m[id]?=some (.live 1 Oa (zs.map eI))) (hlen:ys.length<=zs.length)
 (p:∀w b off cap,Holds (Value.int .i64) w b off zs.toArray->zs.length<=cap->Calls P k #[.slice (some ⟨b,off,none⟩) zs.length cap] w λe w'=>e=.returned (.slice (some ⟨b,off,none⟩) ys.length cap)/\∃n xs,xs.length+ys.length=zs.length/\w'=grow (putRow (Value.int .i64) (Sort.ahead w n) b off (ys++xs).toArray) #[])
 (o:∀w cap,Calls P k #[.slice none 0 cap] w λe w'=>e=.returned (.slice none 0 cap)/\w'=w) :
 CallT P k [.own id Oa] m λd m'=>d=.own id (Oa+1)/\m'=m.set id (.live 1 (Oa+1) (ys.map eI)):=by
 refine⟨s,λG w vs hv hi=>?_⟩;obtain⟨eV,eS,eN,eC,eB⟩:=hi.ent id _ hm;simp only[VsRel,VRel]at hv;obtain⟨u,r,rfl,⟨a,n,c,rfl,g1,g2,g3⟩,rfl⟩:=hv;obtain⟨rfl,rfl,rfl⟩:=g3 eV;simp only[dac]at eN eC;rcases eB with⟨i,q⟩|⟨b,cs,T,i,t,hb,hc,hr⟩
 .have l:=congrArg Fae q;dsimp only at l;have x:zs=[]:=Uaa (by omega);have v:ys=[]:=Uaa (by omega);subst x v;rw[i,eN];refine(o w _).mono ?_;rintro e w' ⟨rfl,rfl⟩;have f:=rh (w':=w') hi hm rfl (e':=.live 1 (Oa+1) (([]:List Int).map eI)) rfl none (Oa+1) 0 (G.C id) (.inl (by omega)) rfl rfl rfl (Paa _)
   (λk hk g=>rfl) (λk hk=>by grind) (by
    refine⟨by simp[Gh.Eg],by grind[Gh.Eg],by simp[Gh.Eg],by simp,.inl ⟨by simp[Gh.Eg],by grind[Gh.Eg]⟩⟩)
  refine⟨_,_,_,_,rfl,⟨rfl,rfl⟩,?_,f.1,f.2⟩;simp only[VRel];exact⟨_,_,_,rfl,g1,by simp[Gh.Eg],λ_=>by simp[Gh.Eg]⟩
 .rw[i,eN];refine(p w b _ _ (holds_of hb (ZK hr)) eC).mono ?_;rintro e w' ⟨rfl,n,xs,hx,hw⟩;obtain⟨y,z,A,D,E,F,p7⟩:=xW hb (by grind) hw;have f:=rh (w':=w') hi hm rfl (e':=.live 1 (Oa+1) (ys.map eI)) rfl (G.B id) (Oa+1) ys.length (G.C id) (.inl (by omega)) y z A D
   (λk hk g=>E k hk (λh=>g (by rw[i,h]))) (λk hk=>.inl hk) (by
    refine⟨by simp[Gh.Eg],by grind[Gh.Eg],by simp[Gh.Eg],by grind[Gh.Eg],.inr ⟨b,_,T,by grind[Gh.Eg],t,F,?_,IU λj h=>?_⟩⟩
    all_goals grind[Gh.Eg,putCells])
  refine⟨_,_,_,_,rfl,⟨rfl,rfl⟩,?_,f.1,f.2⟩;simp only[VRel];exact⟨_,_,_,rfl,g1,by simp[Gh.Eg],λ_=>by grind[Gh.Eg]⟩
theorem T4{k:FuncId}(f:Enters P k) {zs:List Int}(a:ys.length=zs.length)
 (d:∀w b off cap,Holds (Value.int .i64) w b off zs.toArray->b<w.heap.size->Calls P k #[.slice (some ⟨b,off,none⟩) zs.length cap] w λe w'=>e=.returned (.tuple #[])/\∃n os,w'=grow (putRow (Value.int .i64) (Sort.ahead w n) b off ys.toArray) os)
 (c:∀w cap,Calls P k #[.slice none 0 cap] w λe w'=>e=.returned (.tuple #[])/\w'=w):W1 P k [] [] 1 (zs.map eI) (ys.map eI) (.tup []):=
 λm id Oa hm=>iT f hm a d c
variable {P:Program} {N:Nat}
theorem VsRel.swap{l:List D}{us:List Value}{d:D}{u:Value}(h:VsRel G w l us) (hu:us.getD i undef=u) (hi:i<l.length) (hd:VRel G w d u):VsRel G w (l.set i d) us:=by
 have:=h.set hd i;have hlen:=h.length;have he:us.set i u=us:=by
  apply xac
  grind
 simp_all
theorem sq_free{n:Nat}{d:D}(h:va d=true):Sq ρ m (n+1) d d:=by
 cases d with
 |v x=>exact rfl
 |agg a=>exact .inl ⟨rfl,by grind[va]⟩
 |tup a=>exact .inl ⟨rfl,by grind[va]⟩
 |sl S a=>exact⟨rfl,.inl ⟨rfl,by grind[va]⟩⟩
 |pt d=>exact .inl ⟨rfl,by grind[va]⟩
 |fn f a c=>
  simp only[va,Laa]at h;exact⟨rfl,.inl ⟨rfl,h.1⟩,.inl ⟨rfl,h.2⟩⟩
 |dead=>exact trivial
 |ifc t d=>exact⟨rfl,.inl ⟨rfl,by grind[va]⟩⟩
 |own=>grind[va]
 |ref=>grind[va]
 |view=>grind[va]
 |mp=>grind[va]
def compIU(E:List (Nat×List Nat)) (P:Program) (ops:Array Oper) (o:Oper) (op:Op):Option I:=
 match op with
 |.binOp b t x y _=>
  match E.lookup t with
  |some ks=>some (.ceq (decide (b=.neq)) ks x y)
  |none=>zu P ops o op
 |_=>zu P ops o op
def compOpU(E:List (Nat×List Nat)) (P:Program) (ops:Array Oper) (o:Oper):Option RI:=
 match guardOf ops o.guard with
 |none=>none
 |some g=>
  match YN P o.op with
  |some (f,args)=>some (.call o.dst g f args)
  |none=>(compIU E P ops o o.op).map λi=>.op o.dst g i
def pJ(E:List (Nat×List Nat)) (P:Program) (ops:Array Oper):List Oper->Option (List RI)
 |[]=>some []
 |o::l=>
  match compOpU E P ops o,pJ E P ops l with
  |some r,some rs=>some (r::rs)
  |_,_=>none
def xD(E:List (Nat×List Nat)) (P:Program):Code->Option C
 |.skip=>some .skip
 |.region _ ops false=>(pJ E P ops ops.toList).map .IS
 |.region _ ops true=>
  match pJ E P ops ops.toList with
  |some rl=>
   if rG (Bb ops) rl (qOf (Bb ops) rl.length)=true then some (.draw (qOf (Bb ops) rl.length) rl)
   else some (.any (rT (Bb ops) rl.length (qOf (Bb ops) rl.length)) (qOf (Bb ops) rl.length) (Bb ops) rl)
  |none=>none
 |.seq a b=>
  match xD E P a,xD E P b with
  |some x,some y=>some (.seq x y)
  |_,_=>none
 |.cond c a b=>
  match xD E P a,xD E P b with
  |some x,some y=>some (.cond c x y)
  |_,_=>none
 |.block id a=>(xD E P a).map (.block id)
 |.loop a=>(xD E P a).map .loop
 |.exit id=>some (.exit id)
 |.ret=>some .ret
 |.label _=>some .skip
 |.rangeFunc ..=>some .stuck
 |_=>none
def compFU(E:List (Nat×List Nat)) (P:Program) (f:FuncId):Option Fun:=
 match P.funcs[f]? with
 |some fn=>
  match fn.body,iA P fn.results.toList with
  |some b,some r=>(xD E P b).map λc=>⟨fn.ntmps,r,c⟩
  |_,_=>none
 |none=>none
theorem u8l{n:Nat}{h:n<2 ^ 8}:(⟨⟨⟨n,h⟩⟩⟩:UInt8)=UInt8.ofNat n:=by
 apply UInt8.toBitVec_inj.1;simp only[BitVec.ofFin_eq_ofNat];rfl
theorem arl{l:List UInt8}:(⟨l⟩:Array UInt8)=l.toArray:=rfl
structure Kf (P:Program) (n:Nat) where
 F:Fun
 ok:pz P n=some F
 nm:((P.funcs[n]?).map λfn=>fn.name == "runtime.NumGoroutine")=some false
variable {n:Nat}
theorem Kf.o{P:Program}(K:Kf P n):pz P n=some K.F/\((P.funcs[n]?).map λfn=>fn.name == "runtime.NumGoroutine")=some false:=⟨K.ok,K.nm⟩
abbrev Kf.of(E:List (Nat×List Nat)) {P:Program}{n:Nat}{F:Fun}(_:compFU E P n=some F:=by conv=>lhs;reduce;try simp only[Int.reduceOfNat,Int.reduceNegSucc,u8l,arl,UInt8.reduceOfNat]) (ok:pz P n=some F:=by kernel_rfl) (nm:((P.funcs[n]?).map λfn=>fn.name == "runtime.NumGoroutine")=some false:=by kernel_rfl):Kf P n:=⟨F,ok,nm⟩
theorem ss:type_of% @T.S9:=@T.S9
theorem rg:type_of% @T.rg:=@T.rg
theorem sr:type_of% @T.sr:=@T.sr
theorem cd:type_of% @T.cd:=@T.cd
theorem bk:type_of% @T.bk:=@T.bk
theorem sk:type_of% @T.skip:=@T.skip
theorem xt:type_of% @T.exit:=@T.exit
theorem ay:type_of% @T.ay:=@T.ay
theorem dy:type_of% @T.dy:=@T.dy
theorem ao:type_of% @T.ao:=@T.ao
theorem tl:type_of% @T.vL:=@T.vL
theorem cq:type_of% @HI:=@HI
theorem lq:type_of% @XN:=@XN
theorem bs:type_of% @Ap:=@Ap
theorem lc:type_of% @T.M6:=@T.M6
theorem tj:type_of% @T.join:=@T.join
theorem lv:type_of% @kJ:=@kJ
theorem cv:type_of% @mJ:=@mJ
section
variable {P:Program} {N:Nat}
theorem jn{a b:C}{s:St} [StbC N K] (S:X->St) {o:Option X}{f:X->Option β}{r:β}(h:o.bind f=some r) (ha:∀z,o=some z->Tm.T P N a (KJ N K S (.inl z:X⊕Unit)) s) (hb:∀z,o=some z->f z=some r->Tm.T P N b K (S z)):Tm.T P N (.seq a b) K s:=by
 obtain⟨z,c,h2⟩:=Ap h;refine T.join (R:=Unit) S (.inl z) (ha z c) ?_;rintro _ ⟨⟩;exact hb z c h2
theorem gi{q N:Prop} [Decidable q] {α:Type}{A B:Option α}{r:α}(h:(if q then A else B)=some r) (b:q->A=some r->Y) (h2:¬q->B=some r->N) (a:p=q:=by rfl):gP p Y N:=gP.ite h (iff_of_eq a) b h2
theorem rt:type_of% @T.ret:=@T.ret
theorem er:type_of% @uM:=@uM
end
theorem eT{α:Type} [BEq α] [LawfulBEq α] {a b:α}(h:a=b):(a==b)=true:=beq_iff_eq.2 h
theorem eF{α:Type} [BEq α] [LawfulBEq α] {a b:α}(h:¬a=b):(a==b)=false:=beq_eq_false_iff_ne.2 h
theorem eD{α:Type} [BEq α] [LawfulBEq α] {a b:α}(h:¬ ¬a=b):(a==b)=true:=beq_iff_eq.2 (Haa.1 h)
theorem nT{α:Type} [BEq α] [LawfulBEq α] {a b:α}(h:¬a=b):(a !=b)=true:=bne_iff_ne.2 h
theorem nF{α:Type} [BEq α] [LawfulBEq α] {a b:α}(h:a=b):(a !=b)=false:=by simpa using h
theorem nD{α:Type} [BEq α] [LawfulBEq α] {a b:α}(h:¬ ¬a=b):(a !=b)=false:=nF (Haa.1 h)
theorem bI{α:Type}{l:List α}{i:Int}{g:α->Option β}{r:β}(h:(idx l i).bind g=some r):∃x,0<=i/\l[i.toNat]?=some x/\g x=some r:=by
 obtain⟨x,a,h2⟩:=Ap h;obtain⟨b,c⟩:=idx_f a;exact⟨x,b,c,h2⟩
theorem bO{α:Type}{l:List α}{i:Int}{g:α->Option β}{r:β}(h:(idx l i).bind g=some r):∃x,0<=i/\l[i.toNat]?=some x/\i.toNat<l.length/\g x=some r:=by
 obtain⟨x,a,h2⟩:=Ap h;obtain⟨b,c,d⟩:=idx_o a;exact⟨x,b,c,d,h2⟩
section
variable {P:Program} {N:Nat}
theorem jm{a b:C}{s:St} [StbC N K] {o:Option X}{f:X->Option β}{r:β}(h:o.bind f=some r) (S:X->St) (ha:∀z,o=some z->Tm.T P N a (KJ N K S (.inl z:X⊕Unit)) s) (hb:∀z,o=some z->f z=some r->Tm.T P N b K (S z)):Tm.T P N (.seq a b) K s:=jn S h ha hb
theorem lm{ρ:Type}[hst:StbC N K] {x:C}{s:St}{step:σ->Option (Ex σ β ρ)}{x0:σ}{y:β⊕ρ}(d:Tm.ca step x0=some y) (S:σ->St) (B:β->St) (c:Tells N s (S x0))
 (round:∀a z,step a=some z->(∀v,z=.ret v->y=.inr v)->Tm.T P N x (KL N id K S B z) (S a))
 (rest:∀b,y=.inl b->K .normal (B b)):Tm.T P N (.block id (.loop x)) K s:=T.M6 S B step x0 d c round rest
end
abbrev ok(i:Nat):Option Nat×Nat×Nat:=(some i,0,0)
abbrev ov(i v:Nat):Option Nat×Nat×Nat:=(some i,v,0)
abbrev on(S:Nat):Option Nat×Nat×Nat:=(none,S,0)
theorem tq{N:Nat}(ρ:Xs) {s:St}(h:QD (Sq ρ s.m 9) s.t S.t/\jG ρ s.m ρ S.m) (hk:HA ρ N=true:=by rfl) (a:(ρ.filterMap (·.1)).Nodup:=by decide):Tells N s S:=Tells.q ρ hk a h
theorem fq:type_of% @fin_q:=@fin_q
theorem zr:type_of% (ak (ak @uG @WK) (ak @XK @ZG)):=ak (ak @uG @WK) (ak @XK @ZG)
class FrL (l:List D):Prop where
 h:oa l=true
instance:FrL []:=⟨rfl⟩
instance {α:Type}{e:α->D} [Fr e] {x:α}{l:List D} [FrL l]:FrL (e x::l):=⟨WJ FrL.h⟩
theorem dk{P:Program}{l:List D}{o:D}(n:Nat) (K:Kf P k) (h:T P 0 K.F.code (jz K.F.results o) ⟨l++Tm.ds n [],[]⟩) (hf:oa l=true:=by exact FrL.h) (hn:K.F.ntmps=l.length+n:=by rfl):Den P k l o:=Den.at n K.ok K.nm hf hn h
end Go.Tm
