/-
  The engine: a part of the proof that trees of values are carried along by the program: no condition.
-/
import Derived.Test.YtjjfnbpfgfopbaaGreatDoorEB
import Derived.ProofKit
import Derived.OpenShut
import Derived.WideShapes
import Derived.Lib.LaidTab
import Derived.SizedLaws
import Derived.Sort.Row
import Derived.Sort.Grow
import Derived.KernelRfl
open Bool renaming and_eq_true->Caa,and_true->Jaa,true_and->xac
open Classical renaming not_not->waa
open Eq renaming trans->paa
open List renaming all_cons->Gab,all_eq_true->Yaa,append_nil->Xaa,cons_append->Iaa,contains_iff_mem->dab,drop_drop->Fad,drop_zero->Yac,eq_nil_of_length_eq_zero->Qaa,ext_getElem?->cac,foldlM->Qae,getElem?_cons_succ->Dab,getElem?_cons_zero->Zaa,getElem?_eq_getElem->qaa,getElem?_eq_some_iff->iab,getElem_mem->xaa,length_cons->uaa,length_map->lab,length_nil->Faa,map_cons->Gaa,map_nil->xab,mem_append->bab,mem_cons->oab,mem_map_of_mem->gae,nil_append->Vaa,replicate->raa,replicate_zero->fad,take_length->yab,take_of_length_le->wac
open Nat renaming le_refl->Haa,lt_succ_self->Tad,not_lt_zero->Yad,sub_zero->vad,zero_add->Fab,zero_le->sab,zero_lt_succ->vae
open Option renaming bind_eq_some_iff->aac,map_eq_some_iff->saa,map_some->uac
open Option.some renaming inj->Raa,injEq->aab
open Prod renaming fst->pae
open Prod.mk renaming injEq->Paa
set_option linter.all false
namespace Go.Tm
inductive W where
 |c (c:C)
 |l (l:List RI)
 |an (q:Nat) (bs:List (List Nat)) (l:List RI)
 |yo (pl:List (Option Nat)) (ps fp:List (List Nat)) (q:Nat) (l:List RI)
 |f (k:Nat) (ds:List D)
 |p (k:Nat) (ds:List D)
 |q (k:Nat) (ds:List D)
 |w (p k:Nat) (ds:List D)
section
variable {P:Program} {FT:Nat->Option (Fun×Nat)} {O:Nat->List D->Option D}
end
variable {α:Type}
noncomputable section
def oB(k:IntKind):Int:=
 match k with
 |.i8=>256|.i16=>65536|.i32=>4294967296|.i64=>18446744073709551616
 |.u8=>256|.u16=>65536|.u32=>4294967296|.u64=>18446744073709551616
theorem SO(k:IntKind):oB k=2 ^ k.bits:=by cases k<;>rfl
def vC(n h m:Int):Int:=bif decide (n % m>=h)then n % m-m else n % m
def ca(k:IntKind) (n:Int):Int:=
 match k with
 |.i8=>vC n 128 256
 |.i16=>vC n 32768 65536
 |.i32=>vC n 2147483648 4294967296
 |.i64=>vC n 9223372036854775808 18446744073709551616
 |.u8=>n % 256
 |.u16=>n % 65536
 |.u32=>n % 4294967296
 |.u64=>n % 18446744073709551616
theorem Su(k:IntKind) (n:Int):ca k n=k.wrap n:=by
 cases k<;>simp[ca,vC,IntKind.wrap,IntKind.bits,IntKind.signed,cond_eq_ite]
def OA(op:Nat->Nat->Nat) (k:IntKind) (x y:Int):Value:=.int k (ca k (op (x % oB k).toNat (y % oB k).toNat:Nat))
theorem nR(k:IntKind) (x:Int):(BitVec.ofInt k.bits x).toNat=(x % oB k).toNat:=by
 rw[BitVec.toNat_ofInt,SO];norm_cast
def vg(op:BinOp) (j:IntKind) (a:Int) (k:IntKind) (b:Int):Option Value:=
 match op with
 |.add=>bif decide (j=k)then some (.int j (ca j (a+b)))else none
 |.sub=>bif decide (j=k)then some (.int j (ca j (a-b)))else none
 |.mul=>bif decide (j=k)then some (.int j (ca j (a*b)))else none
 |.eql=>bif decide (j=k)then some (.bool (a==b))else none
 |.neq=>bif decide (j=k)then some (.bool (a !=b))else none
 |.lss=>bif decide (j=k)then some (.bool (decide (a<b)))else none
 |.leq=>bif decide (j=k)then some (.bool (decide (a<=b)))else none
 |.gtr=>bif decide (j=k)then some (.bool (decide (b<a)))else none
 |.geq=>bif decide (j=k)then some (.bool (decide (b<=a)))else none
 |.and=>bif decide (j=k)then some (OA Nat.land j a b)else none
 |.or=>bif decide (j=k)then some (OA Nat.lor j a b)else none
 |.xor=>bif decide (j=k)then some (OA Nat.xor j a b)else none
 |.quo=>bif decide (j=k)&&!decide (b=0)then some (.int j (ca j (a.tdiv b)))else none
 |.rem=>bif decide (j=k)&&!decide (b=0)then some (.int j (a.tmod b))else none
 |.shl=>bif decide (b<0)then none else some (.int j (ca j (a*((2 ^ (min b.toNat j.bits):Nat):Int))))
 |.shr=>bif decide (b<0)then none else some (.int j (a.fdiv ((2 ^ (min b.toNat j.bits):Nat):Int)))
 |op=>qg (binOp op 0 (.int j a) (.int k b))
theorem nY(op:BinOp) (j:IntKind) (a:Int) (k:IntKind) (b:Int):vg op j a k b=qg (binOp op 0 (.int j a) (.int k b)):=by
 have c:∀{α:Type} (x:String),qg (stuck x:Sem α)=none:=λ_=>rfl;have f:∀{α:Type} (x:α),qg (pure x:Sem α)=some x:=λ_=>rfl;have d:∀{α:Type} x,qg (runtimePanic x:Sem α)=none:=λ_=>rfl;cases op
 case shl=>
  simp only[vg,binOp,Op.shift,cond_eq_ite,decide_eq_true_eq];split<;>simp[c,f,d,Su]
 case shr=>
  simp only[vg,binOp,Op.shift,cond_eq_ite,decide_eq_true_eq];split<;>simp[c,f,d]
 all_goals
  by_cases e:j=k
  .subst e;simp[vg,binOp,Op.intArith,Op.intCmp,Op.intBits,Op.intDiv,c,f,d,Su,OA,nR,SO];(try rfl);(try (split<;>simp[c,f,d,Su, *]))
  .simp[vg,binOp,e,c]
section
variable {FT:Nat->Option (Fun×Nat)} {O:Nat->List D->Option D}
variable {P:Program}
end
end
variable {P:Program} {N:Nat}
def Ko(r:Option (D×List Ent)) (f:D->List Ent->Prop):Prop:=
 match r with
 |some p=>f p.1 p.2
 |none=>False
@[congr] theorem C7{r a:Option (D×List Ent)} {f:D->List Ent->Prop} (h:r=a):Ko r f=Ko a f:=by rw[h]
theorem OP(d:D) (m:List Ent) (f:D->List Ent->Prop):Ko (some (d,m)) f=f d m:=paa rfl rfl
theorem Rk(r:Option (D×List Ent)) (f:D->List Ent->Prop):Ko r f↔∃d m',r=some (d,m')/\f d m':=by
 cases r with
 |none=>simp[Ko]
 |some p=>
  obtain⟨d,m⟩:=p;simp only[Ko]
  grind
def Je(P:Program) (k:Nat) (ds:List D) (m:List Ent) (f:D->List Ent->Prop):Prop:=CallT P k ds m f
@[congr] theorem J5{k a:Nat} {ds ds':List D} {m m':List Ent} {f:D->List Ent->Prop} (h1:k=a) (h2:ds=ds') (h3:m=m'):Je P k ds m f=Je P a ds' m' f:=by simp_all
theorem nu{k:Nat}{ds:List D}{m:List Ent}{R f:D->List Ent->Prop}(h:CallT P k ds m R) (a:∀d m',R d m'->f d m'):Je P k ds m f:=h.mono a
theorem bc{k:Nat}{ds:List D}{m m1:List Ent}{d1:D}{f:D->List Ent->Prop}(h:CallT P k ds m λd m'=>d=d1/\m'=m1) (hf:f d1 m1):Je P k ds m f:=
 h.mono λd m' ⟨h1,h2⟩=>by simp_all
theorem pa.cons{d e:D}{l r:List D}(h1:Sub d e) (h2:pa l r):pa (d::l) (e::r):=by
 simp only[pa]
 grind
theorem Sub.Ka(d:D):Sub d .dead:=by cases d<;>simp[Sub]
variable {P:Program} {N:Nat}
def gP(p Y N:Prop):Prop:=(p->Y)/\(¬p->N)
theorem gP_T{Y N:Prop}:gP True Y N=Y:=by simp[gP]
theorem gP_F{Y N:Prop}:gP False Y N=N:=by simp[gP]
@[congr] theorem gP_congr{p a Y N:Prop} (h:p=a):gP p Y N=gP a Y N:=by rw[h]
theorem gP.mk{p Y N:Prop}(a:p->Y) (h2:¬p->N):gP p Y N:=⟨a,h2⟩
def dw(s:St) (g:Option (Tmp×Bool)) (b:Bool):St:=
 match g with
 |none=>s
 |some (t,_)=>
  match s.t.getD t .dead with
  |.v (.bool _)=>{ s with t:=s.t.set t (.v (.bool b)) }
  |_=>s
theorem uA{l:List D}{t:Nat}{d:D}(h:l.getD t .dead=d) (hd:d≠.dead):l.set t d=l:=by
 apply cac
 grind
theorem fP{s:St}{g:Option (Tmp×Bool)}{c b:Bool}(hg:gate s g=some (some (c,b))) (e:c=b):dw s g b=s:=by
 unfold dw
 cases g with
 |none=>rfl
 |some p=>
  obtain⟨t,b'⟩:=p;simp only;split
  all_goals simp_all[gate,uA]
theorem FV{s:St}{g:Option (Tmp×Bool)}{c b:Bool}(a:gate s g=some (some (c,b))) (e:c≠b):dw s g (!b)=s:=by
 unfold dw
 cases g with
 |none=>rfl
 |some p=>
  obtain⟨t,d⟩:=p;simp only;split
  .rename_i x hx;simp only[gate,hx]at a;injection a with a;injection a with a;injection a with f h2;subst f h2;have:x = !d:=by cases x<;>cases d<;>simp_all
   simp_all[uA]
  .rfl
def KO(R:St->Prop) (s:St) (dst:Option Tmp) (d:D) (m':List Ent):Prop:=R ({ s with m:=m' }.put dst d)
def Zg(P:Program):List RI->(St->Prop)->St->Prop
 |[],K,s=>K s
 |.op dst g i::l,K,s=>
  match gate s g with
  |none=>False
  |some none=>Ko (ea s i) (KO (Zg P l K) s dst)
  |some (some (c,b))=>gP (c=b) (Ko (ea (dw s g b) i) (KO (Zg P l K) (dw s g b) dst)) (Zg P l K ((dw s g (!b)).put dst (.v undef)))
 |.call dst g f args::l,K,s=>
  match s.ec f with
  |.fn k first caps=>
   match gate s g with
   |none=>False
   |some none=>Je P k (first++args.map s.ev++caps) s.m (KO (Zg P l K) s dst)
   |some (some (c,b))=>gP (c=b) (Je P k (first++args.map (dw s g b).ev++caps) s.m (KO (Zg P l K) (dw s g b) dst)) (Zg P l K ((dw s g (!b)).put dst (.v undef)))
  |_=>False
theorem ur:∀{l:List RI}{K:St->Prop}{s:St},Zg P l K s->Wi P l K s
 |[],K,s,h=>h
 |.op dst g i::l,K,s,h=>by
  simp only[Zg]at h;simp only[Wi];split at h
  .simp_all
  .rename_i a;rw[a];obtain⟨d,m',j,h2⟩:=(Rk _ _).1 h;exact⟨d,m',j,ur h2⟩
  .rename_i c b a;rw[a];refine⟨λe=>?_,λe=>?_⟩
   .have h:=h.1 e;rw[fP a e]at h;obtain⟨d,m',j,h2⟩:=(Rk _ _).1 h;exact⟨d,m',j,ur h2⟩
   .have h:=h.2 e;rw[FV a e]at h;exact ur h
 |.call dst g f args::l,K,s,h=>by
  simp only[Zg]at h;simp only[Wi];split at h
  .rename_i k first caps hf
   rw[hf];split at h
   .simp_all
   .rename_i a;rw[a];exact h.mono λ_ _ h2=>ur h2
   .rename_i c b a;rw[a];refine⟨λe=>?_,λe=>?_⟩
    .have h:=h.1 e;rw[fP a e]at h;exact h.mono λ_ _ h2=>ur h2
    .have h:=h.2 e;rw[FV a e]at h;exact ur h
  simp_all
def Xu(P:Program):Nat->List RI->(St->Prop)->St->Prop
 |0,l,K,s=>Zg P l K s
 |_+1,[],_,_=>False
 |q+1,.op dst g i::l,K,s=>
  match gate s g with
  |none=>False
  |some none=>Ko (ea s i) (KO (Xu P q l K) s dst)
  |some (some (c,b))=>gP (c=b) (Ko (ea s i) (KO (Xu P q l K) s dst)) (Xu P q l K (s.put dst (.v undef)))
 |q+1,.call dst g f args::l,K,s=>
  match s.cv f with
  |.fn k first caps=>
   match gate s g with
   |none=>False
   |some none=>∃d,(∀m,CallT P k (first++args.map s.ev++caps) m λd' m'=>d'=d/\m'=m)/\Xu P q l K (s.put dst d)
   |some (some (c,b))=>(c=b->∃d,(∀m,CallT P k (first++args.map s.ev++caps) m λd' m'=>d'=d/\m'=m)/\Xu P q l K (s.put dst d))/\(c≠b->Xu P q l K (s.put dst (.v undef)))
  |_=>False
theorem bE:∀{q:Nat}{l:List RI}{K:St->Prop}{s:St},Xu P q l K s->mJ P q l K s
 |0,l,K,s,h=>by simp only[Xu]at h;simp only[mJ];exact ur h
 |_+1,[],K,s,h=>by simp only[Xu]at h
 |q+1,.op dst g i::l,K,s,h=>by
  simp only[Xu]at h;simp only[mJ];split at h
  .simp_all
  .rename_i j;rw[j];obtain⟨d,m',a,h2⟩:=(Rk _ _).1 h;exact⟨d,m',a,bE h2⟩
  .rename_i c b j;rw[j];refine⟨λe=>?_,λe=>bE (h.2 e)⟩;obtain⟨d,m',a,h2⟩:=(Rk _ _).1 (h.1 e);exact⟨d,m',a,bE h2⟩
 |q+1,.call dst g f args::l,K,s,h=>by
  simp only[Xu]at h;simp only[mJ];split at h
  .rename_i k first caps hf
   rw[hf];split at h
   .simp_all
   .rename_i j;rw[j];obtain⟨d,a,h2⟩:=h;exact⟨d,a,bE h2⟩
   .rename_i c b j;rw[j];refine⟨λe=>?_,λe=>bE (h.2 e)⟩;obtain⟨d,a,h2⟩:=h.1 e;exact⟨d,a,bE h2⟩
  simp_all
def C.iD:C->Bool
 |.loop _=>true
 |.any ..=>true
 |.seq a b=>a.iD || b.iD
 |.cond _ a b=>a.iD || b.iD
 |.block _ a=>a.iD
 |_=>false
def C.Hk:C->Bool
 |.loop _=>true
 |_=>false
theorem dQ{f:FuncId}{ds ds':List D}{m:List Ent}{R:D->List Ent->Prop}(a:pa ds ds') (h:CallT P f ds' m R):CallT P f ds m R:=
 ⟨h.1,λG w vs hv hi=>h.2 G w vs (a.rel hv) hi⟩
def KS(P:Program) (N:Nat) (b:C) (K:Exit->St->Prop) (e:Exit) (s':St):Prop:=match e with|.normal=>Tm.T P N b K s'|e=>K e s'
theorem JP{b:C}{K:Exit->St->Prop}{s:St}:KS P N b K .normal s=Tm.T P N b K s:=paa rfl rfl
theorem RX{b:C}{K:Exit->St->Prop}{s:St}{i:Nat}:KS P N b K (.exit i) s=K (.exit i) s:=paa rfl rfl
theorem X6{b:C}{K:Exit->St->Prop}{s:St}:KS P N b K .ret s=K .ret s:=paa rfl rfl
def KZ(R:St->Prop) (K:Exit->St->Prop) (e:Exit) (s':St):Prop:=match e with|.normal=>R s'|e=>K e s'
def KB(id:Nat) (K:Exit->St->Prop) (e:Exit) (s':St):Prop:=match e with|.exit a=>if a=id then K .normal s' else K (.exit a) s'|e=>K e s'
theorem IP{id:Nat}{K:Exit->St->Prop}{s:St}:KB id K .normal s=K .normal s:=paa rfl rfl
theorem NX{id:Nat}{K:Exit->St->Prop}{s:St}{i:Nat}:KB id K (.exit i) s=if i=id then K .normal s else K (.exit i) s:=paa rfl rfl
theorem S6{id:Nat}{K:Exit->St->Prop}{s:St}:KB id K .ret s=K .ret s:=paa rfl rfl
@[congr] theorem T_congr{c:C} {K:Exit->St->Prop} {s s':St} (h:s=s'):Tm.T P N c K s=Tm.T P N c K s':=by rw[h]
def Z(P:Program) (N:Nat):C->(Exit->St->Prop)->St->Prop
 |.skip,K,s=>K .normal s
 |.UI l,K,s=>Zg P l (K .normal) s
 |.draw q l,K,s=>Xu P q l (K .normal) s
 |.any cuts q bs l,K,s=>T P N (.any cuts q bs l) K s
 |.seq a b,K,s=>
  match a.iD with
  |true=>Z P N a (KS P N b K) s
  |false=>Z P N a (KZ (Z P N b K) K) s
 |.cond c a b,K,s=>
  match s.ev c with
  |.v (.bool t)=>gP (t=true) (Z P N a K s) (Z P N b K s)
  |_=>False
 |.block id a,K,s=>
  match a.Hk with
  |true=>T P N (.block id a) K s
  |false=>Z P N a (KB id K) s
 |.loop a,K,s=>T P N (.loop a) K s
 |.exit id,K,s=>K (.exit id) s
 |.ret,K,s=>K .ret s
 |.stuck,_,_=>False
theorem Z.T(hm:P.follows .mixedOrders=true):∀{c:C}{K:Exit->St->Prop}{s:St},Z P N c K s->T P N c K s
 |.skip,K,s,h=>T.skip h
 |.UI l,K,s,h=>T.UI (ur h)
 |.draw q l,K,s,h=>T.draw hm (bE h)
 |.any cuts q bs l,K,s,h=>h
 |.seq a b,K,s,h=>by
  simp only[Z]at h;split at h
  .refine T.seq ((Z.T hm h).mono ?_);intro e s' d;cases e<;>exact d
  .refine T.seq ((Z.T hm h).mono ?_);intro e s' d
   cases e with
   |normal=>exact Z.T hm d
   |_=>exact d
 |.cond c a b,K,s,h=>by
  simp only[Z]at h;split at h
  .rename_i t ht;exact T.cond ht (λe=>Z.T hm (h.1 e)) (λe=>Z.T hm (h.2 (by simp[e])))
  .exact h.elim
 |.block id a,K,s,h=>by
  simp only[Z]at h;split at h
  .exact h
  .exact T.block ((Z.T hm h).mono λe s' d=>by cases e<;>exact d)
 |.loop a,K,s,h=>h
 |.exit id,K,s,h=>T.exit h
 |.ret,K,s,h=>T.ret h
 |.stuck,_,_,h=>by simp only[Z]at h
section
variable {l:List RI} {K:St->Prop} {s:St} {dst:Option Tmp} {i:I} {q:Nat} {f:Cal} {args:List Operand} {g:Tmp×Bool}
theorem IS:Zg P [] K s=K s:=paa rfl rfl
theorem XN:Zg P (.op dst none i::l) K s=Ko (ea s i) (KO (Zg P l K) s dst):=paa rfl rfl
theorem LS:Zg P (.op dst (some g) i::l) K s =
 match gate s (some g)with
 |none=>False
 |some none=>Ko (ea s i) (KO (Zg P l K) s dst)
 |some (some (c,b))=>gP (c=b) (Ko (ea (dw s (some g) b) i) (KO (Zg P l K) (dw s (some g) b) dst)) (Zg P l K ((dw s (some g) (!b)).put dst (.v undef))):=paa rfl rfl
theorem LP{k:FuncId}{first caps:List D}(hf:s.ec f=.fn k first caps):Zg P (.call dst none f args::l) K s=Je P k (first++args.map s.ev++caps) s.m (KO (Zg P l K) s dst):=by
 simp only[Zg,hf,gate]
theorem BD{k:FuncId}:Zg P (.call dst none (.func k) args::l) K s=Je P k (args.map s.ev) s.m (KO (Zg P l K) s dst):=by
 rw[LP (k:=k) (first:=[]) (caps:=[]) rfl,Vaa,Xaa]
theorem sJ{k:FuncId}:Zg P (.call dst (some g) (.func k) args::l) K s =
 match gate s (some g)with
 |none=>False
 |some none=>Je P k (args.map s.ev) s.m (KO (Zg P l K) s dst)
 |some (some (c,b))=>gP (c=b) (Je P k (args.map (dw s (some g) b).ev) s.m (KO (Zg P l K) (dw s (some g) b) dst)) (Zg P l K ((dw s (some g) (!b)).put dst (.v undef))):=by
 simp only[Zg,St.ec,St.ev,Vaa,Xaa]
theorem wS:Xu P 0 l K s=Zg P l K s:=by simp only[Xu]
theorem vS:Xu P (q+1) (.op dst none i::l) K s=Ko (ea s i) (KO (Xu P q l K) s dst):=paa rfl rfl
theorem MX:Xu P (q+1) (.op dst (some g) i::l) K s =
 match gate s (some g)with
 |none=>False
 |some none=>Ko (ea s i) (KO (Xu P q l K) s dst)
 |some (some (c,b))=>gP (c=b) (Ko (ea s i) (KO (Xu P q l K) s dst)) (Xu P q l K (s.put dst (.v undef))):=paa rfl rfl
def QG(P:Program) (k:FuncId) (ds:List D) (R:St->Prop) (s:St) (dst:Option Tmp):Prop:=∃d,(∀m,CallT P k ds m λd' m'=>d'=d/\m'=m)/\R (s.put dst d)
theorem JG{k:FuncId}:Xu P (q+1) (.call dst none (.func k) args::l) K s=QG P k (args.map s.ev) (Xu P q l K) s dst:=by
 simp only[Xu,St.cv,St.ev,Vaa,Xaa,QG,gate]
theorem NL{k:FuncId}:Xu P (q+1) (.call dst (some g) (.func k) args::l) K s =
 match gate s (some g)with
 |none=>False
 |some none=>QG P k (args.map s.ev) (Xu P q l K) s dst
 |some (some (c,b))=>gP (c=b) (QG P k (args.map s.ev) (Xu P q l K) s dst) (Xu P q l K (s.put dst (.v undef))):=by
 simp only[Xu,St.cv,St.ev,Vaa,Xaa,QG,gP]
variable {K':Exit->St->Prop} {a b:C} {c:Operand} {id:Nat} {cuts:List Nat} {bs:List (List Nat)}
theorem im:Z P N .skip K' s=K' .normal s:=paa rfl rfl
theorem yq:Z P N (.UI l) K' s=Zg P l (K' .normal) s:=paa rfl rfl
theorem cm:Z P N (.draw q l) K' s=Xu P q l (K' .normal) s:=paa rfl rfl
theorem xq:Z P N (.any cuts q bs l) K' s=Tm.T P N (.any cuts q bs l) K' s:=paa rfl rfl
def KZb(P:Program) (N:Nat) (b:C) (K':Exit->St->Prop):Exit->St->Prop:=KZ (Z P N b K') K'
theorem Mc:KZb P N b K' .normal s=Z P N b K' s:=paa rfl rfl
theorem Qf:KZb P N b K' (.exit id) s=K' (.exit id) s:=paa rfl rfl
theorem ji:KZb P N b K' .ret s=K' .ret s:=paa rfl rfl
theorem Bq:Z P N (.seq a b) K' s=match a.iD with
 |true=>Z P N a (KS P N b K') s
 |false=>Z P N a (KZb P N b K') s:=paa rfl rfl
theorem bm:Z P N (.cond c a b) K' s=match s.ev c with
 |.v (.bool t)=>gP (t=true) (Z P N a K' s) (Z P N b K' s)
 |_=>False:=paa rfl rfl
theorem ki:Z P N (.block id a) K' s=match a.Hk with
 |true=>Tm.T P N (.block id a) K' s
 |false=>Z P N a (KB id K') s:=paa rfl rfl
theorem gm:Z P N (.loop a) K' s=Tm.T P N (.loop a) K' s:=paa rfl rfl
theorem fm:Z P N (.exit id) K' s=K' (.exit id) s:=paa rfl rfl
theorem Aq:Z P N .ret K' s=K' .ret s:=paa rfl rfl
end
def At(s' S:St):Prop:=pa s'.t S.t/\∃g,s'.m=S.m++g
theorem At.mk(t t':List D) (m g:List Ent) (h:pa t t'):At ⟨t,m++g⟩ ⟨t',m⟩:=⟨h,g,rfl⟩
theorem At.same(t t':List D) (m:List Ent) (h:pa t t'):At ⟨t,m⟩ ⟨t',m⟩:=⟨h,[],by simp⟩
theorem At.cut(n:Nat) {t t':List D}{m m':List Ent}(a:pa t t') (h2:m.take n=m'):At ⟨t,m⟩ ⟨t',m'⟩:=⟨a,m.drop n,by grind[List.take_append_drop]⟩
def Fit(N:Nat) (s:St):Prop:=N<=s.m.length/\belows s.m.length s.t=true/\s.m.all (Ent.below s.m.length)=true
theorem Sub.inv{a b:D}(h:Sub a b):b=.dead\/(∃S,a=.v (.slice none 0 0)/\b=.sl S [])\/(∃l r,a=.agg l/\b=.agg r/\pa l r)\/(∃l r,a=.tup l/\b=.tup r/\pa l r)\/(∃S l r,a=.sl S l/\b=.sl S r/\pa l r)\/a=b:=by
 cases b with
 |dead=>simp
 |v x=>cases a<;>simp_all[Sub]
 |agg r=>cases a<;>simp_all[Sub]
 |tup r=>cases a<;>simp_all[Sub]
 |sl S r=>
  cases a with
  |sl S' l=>simp only[Sub]at h;grind
  |_=>simp_all[Sub]
 |pt x=>cases a<;>simp_all[Sub]
 |ref _ _ _ _=>cases a<;>simp_all[Sub]
 |own _ _=>cases a<;>simp_all[Sub]
 |view _ _ _ _=>cases a<;>simp_all[Sub]
 |fn _ _ _=>cases a<;>simp_all[Sub]
 |mp _=>cases a<;>simp_all[Sub]
 |ifc _ _=>cases a<;>simp_all[Sub]
mutual
theorem Sub.trans:∀{a b c:D},Sub a b->Sub b c->Sub a c
 |a,.dead,c,d,h2=>by
  rcases h2.inv with rfl|⟨_,h,_⟩|⟨_,_,h,_⟩|⟨_,_,h,_⟩|⟨_,_,_,h,_⟩|rfl
  .exact Sub.Ka _
  .cases h
  .cases h
  .cases h
  .cases h
  .exact Sub.Ka _
 |a,.agg r,c,d,h2=>by
  rcases d.inv with h|⟨_,_,h⟩|⟨l,j,rfl,h,g⟩|⟨_,_,_,h,_⟩|⟨_,_,_,_,h,_⟩|rfl
  .cases h
  .cases h
  .injection h with h;subst h;rcases h2.inv with rfl|⟨_,h,_⟩|⟨j,q,h,rfl,e⟩|⟨_,_,h,_⟩|⟨_,_,_,h,_⟩|rfl
   .exact Sub.Ka _
   .cases h
   .injection h with h;subst h;simp only[Sub];exact pa.trans g e
   .cases h
   .cases h
   .exact d
  .cases h
  .cases h
  .exact h2
 |a,.tup r,c,d,h2=>by
  rcases d.inv with h|⟨_,_,h⟩|⟨_,_,_,h,_⟩|⟨l,j,rfl,h,g⟩|⟨_,_,_,_,h,_⟩|rfl
  .cases h
  .cases h
  .cases h
  .injection h with h;subst h;rcases h2.inv with rfl|⟨_,h,_⟩|⟨_,_,h,_⟩|⟨j,q,h,rfl,e⟩|⟨_,_,_,h,_⟩|rfl
   .exact Sub.Ka _
   .cases h
   .cases h
   .injection h with h;subst h;simp only[Sub];exact pa.trans g e
   .cases h
   .exact d
  .cases h
  .exact h2
 |a,.sl S r,c,d,h2=>by
  rcases h2.inv with rfl|⟨_,h,_⟩|⟨_,_,h,_⟩|⟨_,_,h,_⟩|⟨S',l',q,h,rfl,e⟩|rfl
  .exact Sub.Ka _
  .cases h
  .cases h
  .cases h
  .injection h with i f;subst i;subst f;rcases d.inv with h|⟨_,rfl,h⟩|⟨_,_,_,h,_⟩|⟨_,_,_,h,_⟩|⟨_,l,_,rfl,h,g⟩|rfl
   .cases h
   .injection h with i f;subst f;simp only[pa]at e;subst e;simp[Sub]
   .cases h
   .cases h
   .injection h with i f;subst i;subst f;simp only[Sub,true_and];exact pa.trans g e
   .exact h2
  .exact d
 |a,.v x,c,d,h2=>by
  rcases d.inv with h|⟨_,_,h⟩|⟨_,_,_,h,_⟩|⟨_,_,_,h,_⟩|⟨_,_,_,_,h,_⟩|rfl<;>first|cases h|exact h2
 |a,.pt x,c,d,h2=>by
  rcases d.inv with h|⟨_,_,h⟩|⟨_,_,_,h,_⟩|⟨_,_,_,h,_⟩|⟨_,_,_,_,h,_⟩|rfl<;>first|cases h|exact h2
 |a,.ref _ _ _ _,c,d,h2=>by
  rcases d.inv with h|⟨_,_,h⟩|⟨_,_,_,h,_⟩|⟨_,_,_,h,_⟩|⟨_,_,_,_,h,_⟩|rfl<;>first|cases h|exact h2
 |a,.own _ _,c,d,h2=>by
  rcases d.inv with h|⟨_,_,h⟩|⟨_,_,_,h,_⟩|⟨_,_,_,h,_⟩|⟨_,_,_,_,h,_⟩|rfl<;>first|cases h|exact h2
 |a,.view _ _ _ _,c,d,h2=>by
  rcases d.inv with h|⟨_,_,h⟩|⟨_,_,_,h,_⟩|⟨_,_,_,h,_⟩|⟨_,_,_,_,h,_⟩|rfl<;>first|cases h|exact h2
 |a,.fn _ _ _,c,d,h2=>by
  rcases d.inv with h|⟨_,_,h⟩|⟨_,_,_,h,_⟩|⟨_,_,_,h,_⟩|⟨_,_,_,_,h,_⟩|rfl<;>first|cases h|exact h2
 |a,.mp _,c,d,h2=>by
  rcases d.inv with h|⟨_,_,h⟩|⟨_,_,_,h,_⟩|⟨_,_,_,h,_⟩|⟨_,_,_,_,h,_⟩|rfl<;>first|cases h|exact h2
 |a,.ifc _ _,c,d,h2=>by
  rcases d.inv with h|⟨_,_,h⟩|⟨_,_,_,h,_⟩|⟨_,_,_,h,_⟩|⟨_,_,_,_,h,_⟩|rfl<;>first|cases h|exact h2
theorem pa.trans:∀{a b c:List D},pa a b->pa b c->pa a c
 |[],b,c,f,h2=>by simp only[pa]at f;subst f;exact h2
 |d::a,b,c,f,h2=>by
  simp only[pa]at f;obtain⟨e,r,rfl,g,h⟩:=f;simp only[pa]at h2;obtain⟨e',r',rfl,k3,k4⟩:=h2;exact pa.cons (Sub.trans g k3) (pa.trans h k4)
end
theorem At.trans{a b c:St}(d:At a b) (h2:At b c):At a c:=by
 obtain⟨d,g,k1⟩:=d;obtain⟨h2,e,k2⟩:=h2;exact⟨d.trans h2,e++g,by simp_all⟩
def QL(N:Nat) (K:Exit->St->Prop):Prop:=∀s s',At s' s->Fit N s->K .normal s->K .normal s'
theorem wJ{s S:St}(P:At s S) (hb:Fit N S):∀(G:Gh) (w:World) (a:Act),N<=G.n->Rel G w a s->∃G',Rel G' w a S/\StepN N G w s.m G' w S.m:=by
 intro G w a hN' d;obtain⟨L,g,h2⟩:=P;obtain⟨hN,ht,E⟩:=hb;have x:S.m=s.m.take S.m.length:=by simp_all
 have hk:S.m.length<=s.m.length:=by grind
 have hm:(s.m.take S.m.length).all (Ent.below S.m.length)=true:=by grind
 have hr:Rel G w a ⟨S.t,s.m⟩:=⟨L.rel d.t,d.inv,d.defers⟩;generalize u:S.m.length=k at *;obtain⟨St,Sm⟩:=S;simp only at x ht u hr;subst x;clear d h2 u E;have hi:=hr.inv;have c:∀(i:Nat) e,(s.m.take k)[i]?=some e->i<k/\s.m[i]?=some e:=by
  grind
 have r:Inv (G.trim k) w (s.m.take k):=by
  refine⟨by grind[Gh.trim],hi.F,λi e he=>?_,λi j e e' he C hl D b hb o=>hi.apart i j e e' (c i e he).2 (c j e' C).2 hl D b hb o,hi.gl.bare λ_ h=>h⟩;have hbe:e.below k=true:=Yaa.1 hm e (List.mem_of_getElem? he);have f:=hi.ent i e (c i e he).2
  cases e with
  |live S Na l=>
   obtain⟨y,z,A,B,p⟩:=f;refine⟨y,z,A,B,?_⟩;rcases p with p|⟨I,cs,T,o,O,q,H,v⟩
   .exact .inl p
   .exact .inr ⟨I,cs,T,o,O,q,H,v.trim (by grind[Ent.below])⟩
  |mp es=>
   obtain⟨y,b,K,J,z,A,B,p⟩:=f;exact⟨y,b,K,J,z,A,B,p.trim (by grind[Ent.below])⟩
  |gone=>trivial
 refine⟨G.trim k,⟨hr.t.trim ht,r,hr.defers⟩,⟨λ_ h=>h,λ_ _=>rfl,hN,λi hi'=>.inl ⟨rfl,rfl,rfl,rfl,rfl⟩,rfl,rfl,rfl,Haa _,λ_ _ _=>rfl,λ_ _ h=>.inl h,?_⟩⟩;rintro b hb ⟨i,e,he,hl,M⟩;exact⟨i,e,(c i e he).2,hl,M⟩
def lJ(N:Nat) (K:Exit->St->Prop) (e:Exit) (s:St):Prop:=∀(G:Gh) (w:World) (a:Act),N<=G.n->Rel G w a s->∃s' G',K e s'/\Rel G' w a s'/\StepN N G w s.m G' w s'.m
theorem lJ.of{K:Exit->St->Prop}{e:Exit}{s:St}(h:K e s):lJ N K e s:=λG w a hN hr=>⟨s,G,h,hr,StepN.refl _ _ _ hN⟩
theorem T.tT{c:C}{K:Exit->St->Prop}{s:St}(h:Tm.T P N c (lJ N K) s):Tm.T P N c K s:=by
 intro code hc G w a hN hr;refine Code.wp_mono ?_ (h code hc G w a hN hr);rintro e a' w' ⟨s',G',i,f,b⟩;obtain⟨g,d,j,k,k3⟩:=i G' w' a' b.n f;exact⟨g,d,j,k,b.trans k3⟩
theorem stab_C{K:Exit->St->Prop}:QL N (lJ N K):=by
 intro s s' e h2 f G w a hN hr;obtain⟨G',g,d⟩:=wJ e h2 G w a hN hr;obtain⟨c,b,m1,m2,h⟩:=f G' w a d.n g;exact⟨c,b,m1,m2,d.trans h⟩
theorem T.at{c:C}{K:Exit->St->Prop}{s S:St}(e:At s S) (hb:Fit N S) (h:Tm.T P N c K S):Tm.T P N c K s:=by
 obtain⟨d,g,h2⟩:=e;obtain⟨a,b,b3⟩:=hb;refine T.sub S.t d ?_;refine T.trim S.m.length a (by grind) b (by simp_all) ?_
 simp_all
theorem T.Tj{a b:C}{K:Exit->St->Prop}{s:St}(h:Tm.T P N a (KS P N b K) s):Tm.T P N (.seq a b) K s:=T.seq (h.mono λe s' c=>by cases e<;>exact c)
theorem Us{b:C}{K:Exit->St->Prop}:QL N (KS P N b K):=λs s' a h2 c=>T.at a h2 c
theorem stab_B{id:Nat}{K:Exit->St->Prop}(h:QL N K):QL N (KB id K):=h
def KM{X:Type}(id:Nat) (K:Exit->St->Prop) (S:X->St) (Up fin:X->Prop) (μ:X->Nat) (y:X) (e:Exit) (s':St):Prop:=
 match e with|.normal=>∃z,Up z/\μ z<μ y/\At s' (S z)|.exit j=>if j=id then(∃z,fin z/\At s' (S z))else K (.exit j) s'|e=>K e s'
section
variable {X:Type} {id:Nat} {K:Exit->St->Prop} {S:X->St} {Up fin:X->Prop} {μ:X->Nat} {y:X} {s':St}
theorem Qm:KM id K S Up fin μ y .normal s' = ∃z,Up z/\μ z<μ y/\At s' (S z):=paa rfl rfl
theorem Io{j:Nat}:KM id K S Up fin μ y (.exit j) s'=if j=id then(∃z,fin z/\At s' (S z))else K (.exit j) s':=paa rfl rfl
end
def KI(id n:Nat) (K:Exit->St->Prop) (S:Nat->St) (i:Nat) (e:Exit) (s':St):Prop:=
 match e with|.normal=>i<n/\At s' (S (i+1))|.exit j=>if j=id then i=n/\At s' (S n)else K (.exit j) s'|e=>K e s'
section
variable {id n i:Nat} {K:Exit->St->Prop} {S:Nat->St} {s':St}
theorem uj:KI id n K S i .normal s'=(i<n/\At s' (S (i+1))):=paa rfl rfl
theorem Yu{j:Nat}:KI id n K S i (.exit j) s'=if j=id then i=n/\At s' (S n)else K (.exit j) s':=paa rfl rfl
end
theorem stab_M{X:Type}{id:Nat}{K:Exit->St->Prop}{S:X->St}{Up fin:X->Prop}{μ:X->Nat}{y:X}:QL N (KM id K S Up fin μ y):=by
 rintro s s' a - ⟨z,b,c,k3⟩;exact⟨z,b,c,a.trans k3⟩
theorem T.zJ{id:Nat}{x:C}{K:Exit->St->Prop}{s:St}{X:Type}(S:X->St) (Up fin:X->Prop) (μ:X->Nat) (x₀:X) (d:Up x₀) (g:At s (S x₀))
 (hb:∀y,Up y\/fin y->Fit N (S y))
 (round:∀y,Up y->Tm.T P N x (KM id K S Up fin μ y) (S y))
 (a:(∃z,fin z)->QL N K) (rest:∀z,fin z->K .normal (S z)):Tm.T P N (.block id (.loop x)) K s:=by
 refine T.at g (hb x₀ (.inl d)) ?_;refine T.block (T.loopS S Up μ x₀ d (pa.qb _) rfl (λy b=>hb y (.inl b)) λy b=>(round y b).mono ?_);intro e s' h
 cases e with
 |normal=>obtain⟨z,f,h2,h3,h4⟩:=h;grind
 |exit j=>
  simp only[Io]at h⊢;split at h
  .rename_i hj;rw[if_pos hj];obtain⟨z,c,f⟩:=h;exact a ⟨z,c⟩ (S z) s' f (hb z (.inr c)) (rest z c)
  simp_all
 |_=>exact h
theorem T.YP{id:Nat}{x:C}{K:Exit->St->Prop}{s:St}(n:Nat) (S:Nat->St) (b:At s (S 0)) (hb:∀i,i<=n->Fit N (S i))
 (round:∀i,i<=n->Tm.T P N x (KI id n K S i) (S i))
 (a:QL N K) (rest:K .normal (S n)):Tm.T P N (.block id (.loop x)) K s:=by
 refine T.zJ (X:=Nat) S (λi=>i<=n) (λi=>i=n) (λi=>n-i) 0 (sab _) b (λy hy=>hb y (by omega)) (λi hi=>(round i hi).mono ?_) (λ_=>a) (λz hz=>by simp_all);intro e s' h
 cases e with
 |normal=>
  simp only[uj]at h;exact⟨i+1,h.1,by grind,h.2⟩
 |exit j=>
  simp only[Yu,Io]at h⊢
  grind
 |_=>exact h
theorem sX(d:D):yn [d]=d:=paa rfl rfl
theorem rX:yn []=.tup []:=paa rfl rfl
theorem tX(d e:D) (l:List D):yn (d::e::l)=.tup (d::e::l):=paa rfl rfl
theorem TS{c:Prop} [Decidable c] (p:D×List Ent) (f:D->List Ent->Prop):Ko (if c then some p else none) f=(c/\f p.1 p.2):=by
 by_cases h:c<;>simp[h,Ko]
theorem MZ{α β:Type}{c:Prop} [Decidable c] (a:α) (g:α->β):(if c then some a else none:Option α).map g=if c then some (g a)else none:=by
 simp
theorem Xs{n:Int}(h:-9223372036854775808<=n/\n<=9223372036854775807):ca .i64 n=n:=by
 grind[Su,IntKind.wrap_i64]
theorem R5(a b:Nat):Int.fdiv (a:Int) (b:Int)=((a / b:Nat):Int):=(Int.fdiv_eq_ediv_of_nonneg _ (by omega)).trans (by omega)
section
variable {k:Nat} {m:List Ent} {id Na S lo n:Nat} {l:List D}
end
theorem n5{n:Int}(h:0<=n/\n<18446744073709551616):ca .u64 n=n:=by grind[ca]
theorem Pc{k:Nat}(h:k<18446744073709551616):ca .u64 (k:Int)=(k:Int):=n5 (by omega)
theorem kT:((0:Nat):Int)=0:=paa rfl rfl
theorem ep(b:Bool):qg (Op.unary .not (.bool b))=some (.bool (!b)):=paa rfl rfl
theorem vH(a b:Nat):((a:Int)<(b:Int))↔a<b:=by omega
theorem mY{k:Nat}{a b:List D}(ha:belows k a=true) (hb:belows k b=true):belows k (a++b)=true:=by
 induction a with
 |nil=>grind
 |cons d a ih=>
  simp_all[belows]
theorem LU{a b:List D}(ha:fa a=true) (hb:fa b=true):fa (a++b)=true:=by
 grind[Ci]
theorem VZ(k:IntKind) (n:Int):qg (Op.unary .neg (.int k n))=some (.int k (ca k (-n))):=by
 show some (Value.int k (k.wrap (0-n)))=_
 grind[Su]
theorem NZ(k:IntKind) (a b:Int):qg (Builtin.max_ #[] 0 [Value.int k a,Value.int k b].toArray)=some (.int k (max a b)):=by
 simp only[Builtin.max_,qg,Qae,bind_pure,Builtin.max2];by_cases h:a<b
 .rw[if_pos h,Int.max_eq_right (by omega)];rfl
 .rw[if_neg h,Int.max_eq_left (by omega)];rfl
theorem QZ(k:IntKind) (a b:Int):qg (Builtin.min_ #[] 0 [Value.int k a,Value.int k b].toArray)=some (.int k (min a b)):=by
 simp only[Builtin.min_,qg,Qae,bind_pure,Builtin.min2];by_cases h:b<a
 .rw[if_pos h,Int.min_eq_right (by omega)];rfl
 .rw[if_neg h,Int.min_eq_left (by omega)];rfl
section
variable {α:Type} {l b c:List α} {a a' x:α}
end
open Go.RowKit (Below)
open Go.WideShapes
inductive Sh where
 |bool
 |int (k:IntKind)
 |str
 |sl (S:Nat) (A:Bool) (e:Sh)
 |cat (l:List Sh)
def aggT(P:Program) (t:TypeId):Bool:=
 match P.underlying t with
 |some (.struct _)=>true
 |some (.array _ _)=>true
 |_=>false
def br(f:TypeId->Option Sh) (P:Program):List Field->Nat->Option (List Sh×Nat)
 |[],off=>some ([],off)
 |g::gs,off=>
  if g.offset=off then
   match f g.type,br f P gs (off+P.cellsOf g.type)with
   |some s,some (l,e)=>some (s::l,e)
   |_,_=>none
  else none
def shOf(P:Program):Nat->TypeId->Option Sh
 |0,_=>none
 |n+1,t=>
  match P.underlying t with
  |some .bool=>some .bool
  |some (.int k)=>some (.int k)
  |some .string=>some .str
  |some (.slice e)=>if 0<P.cellsOf e/\0<P.bytesOf e then(shOf P n e).map λs=>.sl (P.cellsOf e) (aggT P e) s else none
  |some (.struct fs)=>
   match br (shOf P n) P fs.toList 0 with
   |some (l,e)=>if e=P.cellsOf t then some (.cat l)else none
   |none=>none
  |some (.array k e)=>if P.cellsOf t=k*P.cellsOf e then(shOf P n e).map λs=>.cat (raa k s)else none
  |_=>none
def Eo(A:Bool) (cs:List D):D:=bif A then .agg cs else cs.headD .dead
mutual
def Qk:Sh->List D->Prop
 |.bool,ds=>∃b,ds=[.v (.bool b)]
 |.int k,ds=>∃n,ds=[.v (.int k n)]/\(Lit.int k n).wf=true
 |.str,ds=>∃s:ByteArray,ds=[.v (.string s)]/\s.size<=maxLen
 |.sl S A e,ds=>∃l,ds=[.sl S l]/\l.length<=140737488355328/\∀d∈l,∃cs,Qk e cs/\d=Eo A cs
 |.cat l,ds=>tt l ds
def tt:List Sh->List D->Prop
 |[],ds=>ds=[]
 |s::l,ds=>∃a b,ds=a++b/\Qk s a/\tt l b
end
theorem FB{G:Gh}{w:World}:∀{a b:List D}{us vs:List Value},VsRel G w a us->VsRel G w b vs->VsRel G w (a++b) (us++vs)
 |[],b,us,vs,c,h2=>by simp only[VsRel]at c;simp_all
 |d::a,b,us,vs,c,h2=>by
  simp only[VsRel]at c;obtain⟨u,r,rfl,e,f⟩:=c;simp only[Iaa,VsRel];exact⟨u,_,rfl,e,FB f h2⟩
theorem uC{f:TypeId->Option Sh}{P:Program}:∀{fs:List Field}{off:Nat}{l:List Sh}{e:Nat},br f P fs off=some (l,e)->off<=e
 |[],off,l,e,h=>by grind[br]
 |g::gs,off,l,e,h=>by
  simp only[br]at h;split at h
  .split at h
   .rename_i s l' e' h1 h2;simp at h;have:=uC h2;omega
   .cases h
  .cases h
def R0(w:World):Gh:=Gh.bare λb=>b<w.heap.size
theorem DJ{w:World}{a:Addr}{v:Value}(h:w.cell? a=some v):a.block<w.heap.size:=by
 grind[World.cell?]
section
variable {H:Type} {enc:TypeId×Value->H} {P:Program} {w:World} {base:Nat} {spare:Nat->Bool} {held:Bool}
theorem Er{P:Program}{e:TypeId}:∀{l:List (DataW H)}{d:DataW H},d∈l->∀n∈d.weights P e,n∈DataW.weightsAll P e l
 |[],_,h=>by cases h
 |x::l,d,h=>by
  intro n hn;simp only[DataW.weightsAll,bab];rcases oab.1 h with rfl|h
  .simp_all
  .exact .inr (Er h n hn)
theorem VB{n fuel:Nat}{cs:List Value}(m:∀t cs x s,shOf P n t=some s->DataW.trod enc P w base spare held fuel t cs=some x->(∀n∈x.1.weights P t,n<=reachBytes)->∃ds,Qk s ds/\VsRel (R0 w) w ds cs/\∀c∈cs,one c=true) :
 ∀(fs:List Field) (off:Nat) (l:List Sh) (e:Nat),br (shOf P n) P fs off=some (l,e)->
  (∀f∈fs,∃x,DataW.trod enc P w base spare held fuel f.type ((cs.drop f.offset).take (P.cellsOf f.type))=some x/\∀n∈x.1.weights P f.type,n<=reachBytes)->
  ∃ds,tt l ds/\VsRel (R0 w) w ds ((cs.drop off).take (e-off))/\∀c∈(cs.drop off).take (e-off),one c=true
 |[],off,l,e,h,_=>by
  simp[br]at h;obtain⟨rfl,rfl⟩:=h;refine⟨[],by simp[tt],by simp[VsRel],by simp⟩
 |g::gs,off,l,e,h,hx=>by
  simp only[br]at h;split at h
  .rename_i d;split at h
   .rename_i s l' e' o h2;simp only[aab,Paa]at h;obtain⟨rfl,rfl⟩:=h;obtain⟨x,k,j⟩:=hx g (by simp);obtain⟨a,k1,p,k3⟩:=m _ _ _ _ o k j;obtain⟨b,m1,m2,m3⟩:=VB m gs _ _ _ h2 λf hf=>hx f (by grind);have hle:=uC h2;have i:(cs.drop off).take (e'-off)=(cs.drop g.offset).take (P.cellsOf g.type)++(cs.drop (off+P.cellsOf g.type)).take (e'-(off+P.cellsOf g.type)):=by
     rw[show e'-off=P.cellsOf g.type+(e'-(off+P.cellsOf g.type)) by omega,List.take_add,Fad,d]
    rw[i];refine⟨a++b,by simp only[tt];grind,FB p m2,λc hc=>?_⟩
    grind
   .cases h
  .cases h
theorem SK{n fuel S:Nat}{cs:List Value}{e:TypeId}{s:Sh}(h:∀cs x,DataW.trod enc P w base spare held fuel e cs=some x->(∀n∈x.1.weights P e,n<=reachBytes)->∃ds,Qk s ds/\VsRel (R0 w) w ds cs/\∀c∈cs,one c=true) :
 ∀(k i:Nat),(∀j,i<=j->j<i+k->∃x,DataW.trod enc P w base spare held fuel e ((cs.drop (j*S)).take S)=some x/\∀n∈x.1.weights P e,n<=reachBytes)->
  ∃ds,tt (raa k s) ds/\VsRel (R0 w) w ds ((cs.drop (i*S)).take (k*S))/\∀c∈(cs.drop (i*S)).take (k*S),one c=true
 |0,i,_=>⟨[],by simp[tt],by simp[VsRel],by simp⟩
 |k+1,i,hx=>by
  obtain⟨x,g,f⟩:=hx i (Haa _) (by omega);obtain⟨a,k1,l,k3⟩:=h _ _ g f;obtain⟨b,m1,m2,m3⟩:=SK (n:=n) h k (i+1) λj h1 h2=>hx j (by omega) (by omega);have d:(cs.drop (i*S)).take ((k+1)*S)=(cs.drop (i*S)).take S++(cs.drop ((i+1)*S)).take (k*S):=by
   grind[Nat.succ_mul,Fad]
  rw[d];refine⟨a++b,by simp only[List.replicate_succ,tt];grind,FB l m2,λc hc=>?_⟩
  grind
theorem HL{A:Bool}{ds:List D}{cs:List Value}(h:VsRel (R0 w) w ds cs) (f:∀c∈cs,one c=true) (hA:A=false->cs.length=1) :
 ∃u:Value,VRel (R0 w) w (Eo A ds) u/\u.cells=cs.toArray/\(A=true->u=.agg cs.toArray)/\(A=false->∃c,cs=[c]/\u=c):=by
 cases A with
 |true=>exact⟨.agg cs.toArray,by simp only[Eo,cond_true,VRel];simp_all,rfl,λ_=>rfl,λh=>by cases h⟩
 |false=>
  match cs,hA rfl with
  |[c],_=>
   match ds,h with
   |d::r,h=>
    simp only[VsRel]at h;obtain⟨u,us,hu,hv,hr⟩:=h;injection hu with e hu2;subst e;have b:=f c (by simp);have a:c.cells=[c].toArray:=by cases c<;>simp[one]at b<;>rfl
    exact⟨c,by grind[Eo],a,λh=>Bool.noConfusion h,λ_=>⟨c,rfl,rfl⟩⟩
theorem FW{n:Nat}{t:TypeId}{s:Sh}(h:shOf P n t=some s) {fuel:Nat}{cs:List Value}{x:DataW H×List MemPlace}(hx:DataW.trod enc P w base spare held fuel t cs=some x):aggT P t=false->cs.length=1:=by
 intro hA
 cases n with
 |zero=>grind[shOf]
 |succ n=>
  simp only[shOf]at h;simp only[aggT]at hA;split at h
  .rename_i hu;obtain⟨b,rfl,_⟩:=DataW.trod_bool hu hx;rfl
  .rename_i hu;obtain⟨b,rfl,_⟩:=DataW.trod_int hu hx;rfl
  .rename_i hu;obtain⟨b,rfl,_⟩:=DataW.trod_string hu hx;rfl
  .rename_i hu;rcases DataW.trod_slice hu hx with⟨rfl,_⟩|⟨a,len,cap,elems,rest,m,_,rfl,_⟩<;>rfl
  all_goals simp_all
theorem Lx:∀(n:Nat) (fuel:Nat) (t:TypeId) (cs:List Value) (x:DataW H×List MemPlace) (s:Sh),shOf P n t=some s->DataW.trod enc P w base spare held fuel t cs=some x->(∀n∈x.1.weights P t,n<=reachBytes)->
 ∃ds,Qk s ds/\VsRel (R0 w) w ds cs/\∀c∈cs,one c=true
 |0,fuel,t,cs,x,s,h,_,_=>by grind[shOf]
 |n+1,fuel,t,cs,x,s,h,hx,o=>by
  simp only[shOf]at h;split at h
  .rename_i hu;injection h with h;subst h;obtain⟨b,rfl,_⟩:=DataW.trod_bool hu hx;exact⟨[.v (.bool b)],by simp only[Qk];simp,by simp[VsRel,VRel],by simp[one]⟩
  .rename_i k hu;injection h with h;subst h;obtain⟨b,rfl,_,hw⟩:=DataW.trod_int hu hx;exact⟨[.v (.int k b)],by simp only[Qk];simp_all,by simp[VsRel,VRel],by simp[one]⟩
  .rename_i hu;injection h with h;subst h;obtain⟨b,rfl,_,hw⟩:=DataW.trod_string hu hx;exact⟨[.v (.string b)],by simp only[Qk];simp_all,by simp[VsRel,VRel],by simp[one]⟩
  .rename_i e hu;split at h
   .rename_i F;simp only[saa]at h;obtain⟨I,p,rfl⟩:=h;rcases DataW.trod_slice hu hx with⟨rfl,_⟩|⟨a,len,cap,elems,rest,m,_,rfl,rfl,hb,hl,hm,g,L,_,_⟩
    .refine⟨[.sl (P.cellsOf e) []],by simp only[Qk];simp,?_,by simp[one]⟩;simp only[VsRel,VRel]
     grind
    .simp only[DataW.weights,hu,oab,bab]at o;have M:=o _ (.inl rfl);have hle:len<=140737488355328:=by
      simp only[lab]at M;have C:=Nat.le_mul_of_pos_right (elems.length+rest.length) F.2
      grind[reachBytes]
     have each:∀i,i<len->∃d u,(∃cs,Qk I cs/\d=Eo (aggT P e) cs)/\VRel (R0 w) w d u/\u.cells.size=P.cellsOf e/\(∀j c,u.cells[j]?=some c->one c=true/\w.cell? ((a.add (i*P.cellsOf e)).add j)=some c):=by
      intro i hi;have C:=L i hi;rw[qaa (by omega)]at C;obtain⟨ecs,Q,y⟩:=aac.1 C;obtain⟨ds,m1,m2,Y⟩:=Lx n _ _ _ _ _ p y (λq hq=>o q (.inr (.inl (Er (gae (xaa _)) q hq))));obtain⟨_,q1,q2⟩:=World.cells?_some Q;obtain⟨u,r1,r2,_,_⟩:=HL (A:=aggT P e) m2 Y (FW p y)
      grind
     have G:∀k,k<=len->∃l:List D,l.length=k/\(∀d∈l,∃cs,Qk I cs/\d=Eo (aggT P e) cs)/\∀(i:Nat) d,l[i]?=some d->∃u,VRel (R0 w) w d u/\u.cells.size=P.cellsOf e/\(∀j c,u.cells[j]?=some c->one c=true/\w.cell? ((a.add (i*P.cellsOf e)).add j)=some c):=by
      intro k
      induction k with
      |zero=>simp
      |succ k W=>
       intro hk;obtain⟨l,T,X,R⟩:=W (by omega);obtain⟨d,u,d1,d2,d3,d4⟩:=each k (by omega);refine⟨l++[d],by grind,λd' K=>?_,λi d' K=>?_⟩
       all_goals grind
     obtain⟨l,T,X,R⟩:=G len (Haa _);refine⟨[.sl (P.cellsOf e) l],by simp only[Qk];simp_all,?_,by simp[one]⟩;simp only[VsRel,VRel];refine⟨_,_,rfl,⟨some a,len,cap,rfl,T.symm,hl,?_⟩,rfl⟩
     cases l with
     |nil=>simp
     |cons d0 l'=>
      obtain⟨U,_,us,uc⟩:=R 0 d0 rfl;have V:∃c,U.cells[0]?=some c:=⟨U.cells[0]'(by omega),Array.getElem?_eq_getElem (by omega)⟩;obtain⟨c,hc⟩:=V;have z:=(uc 0 c hc).2;have E:(a.add (0*P.cellsOf e)).add 0=a:=by simp[Addr.add]
      rw[E]at z;obtain⟨b,off,spot⟩:=a;have B:spot=none:=by simpa using World.cell?_spot z
      subst B;refine .inr ⟨b,off,rfl,DJ z,?_⟩;rw[Ee];intro i d hd;obtain⟨u,Z,u2,u3⟩:=R i d hd;refine⟨u,Z,u2,λj c hj=>?_⟩;obtain⟨c1,c2⟩:=u3 j c hj;refine⟨c1,?_⟩;have haddr:(Addr.add (Addr.add ⟨b,off,none⟩ (i*P.cellsOf e)) j)=⟨b,off+i*P.cellsOf e+j,none⟩:=by
       unfold Addr.add
       grind
      simp_all
   .cases h
  .rename_i fs hu;split at h
   .rename_i l e N;split at h
    .rename_i he;injection h with h;subst h;obtain⟨xs,m,rfl,rfl,g,O,r⟩:=DataW.trod_struct hu hx;simp only[DataW.weights,hu]at o;obtain⟨ds,Q,y,k3⟩:=VB (n:=n) (fuel:=m) (cs:=cs) (λt cs x s C h2 J=>Lx n _ _ _ _ _ C h2 J) fs.toList 0 l e N (λf hf=>by
      obtain⟨i,hi,hfi⟩:=List.mem_iff_getElem.1 hf;have hi':i<fs.size:=by omega
      have:=r i f (by simp_all);rw[qaa (by omega)]at this;exact⟨_,this,λq hq=>o q (DataW.weights_mem_each (j:=i) (t:=f.type) (d:=(xs[i]'(by omega)).1) (by simp_all) (by simp_all) q hq)⟩)
     rw[Yac,vad,he,←g,yab]at y k3;exact⟨ds,by simp only[Qk];omega,y,k3⟩
    .cases h
   .cases h
  .rename_i k e hu;split at h
   .rename_i he;simp only[saa]at h;obtain⟨I,p,rfl⟩:=h;obtain⟨xs,m,rfl,rfl,g,O,r⟩:=DataW.trod_array hu hx;simp only[DataW.weights,hu]at o;obtain⟨ds,Q,y,k3⟩:=SK (n:=n) (fuel:=m) (S:=P.cellsOf e) (cs:=cs) (e:=e) (s:=I) (λcs x h2 J=>Lx n _ _ _ _ _ p h2 J) k 0 (λj _ hj=>by
     grind[Er,gae,xaa])
    rw[Nat.zero_mul,Yac,←he,←g,yab]at y k3;exact⟨ds,by simp only[Qk];omega,y,k3⟩
   .cases h
  .cases h
def LookV(A:Bool) (s:Sh) (d:D):Prop:=∃ds,Qk s ds/\d=Eo A ds
theorem arg_tree{n:Nat}{t:TypeId}{s:Sh}{v:Value}{d:DataW H}{p:List MemPlace}{r:Reach}{f:Nat}(h:shOf P n t=some s) (hx:DataW.Trod enc P w base spare held t v d p) (hv:Value.okWide P w r f t v) (e:∀n∈d.weights P t,n<=reachBytes) :
 ∃d',LookV (aggT P t) s d'/\VRel (R0 w) w d' v:=by
 obtain⟨fuel,hx⟩:=hx;obtain⟨ds,g,i,k3⟩:=Lx n _ _ _ _ _ h hx e;obtain⟨u,u1,u2,j,k⟩:=HL (A:=aggT P t) i k3 (FW h hx);refine⟨Eo (aggT P t) ds,⟨ds,g,rfl⟩,?_⟩;have:u=v:=by
  cases hA:aggT P t with
  |true=>
   rw[j hA];unfold aggT at hA;split at hA
   .rename_i hu;simp only[Value.okWide,hu]at hv;obtain⟨cs,rfl,_⟩:=hv;simp[Value.cells]
   .rename_i hu;simp only[Value.okWide,hu]at hv;obtain⟨cs,rfl,_⟩:=hv;simp[Value.cells]
   simp_all
  |false=>
   obtain⟨c,hc,rfl⟩:=k hA
   cases n with
   |zero=>grind[shOf]
   |succ n=>
    simp only[shOf]at h;unfold aggT at hA;split at h
    .rename_i hu;obtain⟨b,rfl⟩:=okWide_bool hu hv;grind[Value.cells]
    .rename_i hu;obtain⟨b,rfl⟩:=okWide_int hu hv;grind[Value.cells]
    .rename_i hu;obtain⟨b,rfl⟩:=okWide_string hu hv;grind[Value.cells]
    .rename_i hu;obtain⟨a,l,c',rfl⟩:=okWide_slice hu hv;grind[Value.cells]
    all_goals simp_all
 simp_all
end
theorem iL{G G':Gh}{w w':World}{m':List Ent}(h:Step G w [] G' w' m'):Below w.heap.size w w':=
 ⟨h.os,h.tape,h.output,h.size,λk hk=>h.keep k hk λ⟨i,e,he,_⟩=>by simp at he⟩
theorem gok_tab{P:Program}{W:World}{name:String}(i:P.globalNamed name=some 2) (f:Go.Lib.TabIs P W name .i64 [31,28,31,30,31,30,31,31,30,31,30,31]):GOK (R0 W) W:=by
 intro g d h;unfold gtab at h;split at h
 .injection h with h;subst h;have hc:=f.cell i;refine(by
   simp only[VRel];refine⟨2,0,.agg (([31,28,31,30,31,30,31,31,30,31,30,31]:List Int).map λn=>Value.int .i64 n).toArray,rfl,?_,⟨_,rfl,?_,?_⟩,?_⟩
   .exact DJ (a:=⟨2,0,none⟩) (hc 0 (by decide))
   .simp only[Gaa,xab,VsRel,VRel];simp
   .intro c hc;simp only[Gaa,xab,oab,List.not_mem_nil,or_false]at hc;rcases hc with rfl|rfl|rfl|rfl|rfl|rfl|rfl|rfl|rfl|rfl|rfl|rfl<;>rfl
   .intro j c hj;have e:(([31,28,31,30,31,30,31,31,30,31,30,31]:List Int).map λn=>Value.int .i64 n)[j]?=some c:=by grind[Value.cells]
    obtain⟨hlt,b⟩:=iab.1 e;have hlt':j<([31,28,31,30,31,30,31,31,30,31,30,31]:List Int).length:=by grind
    rw[List.getElem_map]at b;subst b;refine⟨rfl,?_⟩
    simp_all:VRel (R0 W) W (.pt (.agg ([31,28,31,30,31,30,31,31,30,31,30,31].map λn=>.v (.int .i64 n)))) (.pointer (some ⟨2,0,none⟩)))
 .cases h
theorem law_walk{P:Program}{f:FuncId}{ds:List D}{vs:List Value}{w:World}(h:CallT P f ds [] λd _=>d=.v (.bool true)) (hv:VsRel (R0 w) w ds vs) (b:GOK (R0 w) w) :
 Calls P f vs.toArray w λe w'=>e=.returned (.bool true)/\Below w.heap.size w w':=by
 refine(h.2 (R0 w) w vs hv (Oz (λ_ h=>h) b)).mono ?_;rintro e w' ⟨v,d,m',G',rfl,rfl,a,-,c⟩;simp only[VRel]at a;subst a;exact⟨rfl,iL c⟩
variable {P:Program}
theorem F7(op:BinOp) (j k:IntKind) (a b:Int):qg (binOp op 0 (.int j a) (.int k b))=vg op j a k b:=(nY ..).symm
theorem l5(k:IntKind) (n:Int):k.wrap n=ca k n:=(Su k n).symm
variable {P:Program}
abbrev Yl:=List (Option Nat×Nat×Nat)
def bq(ρ:Yl) (j:Nat):Bool:=ρ.all λo=>match o.1 with|some k=>k !=j|none=>true
inductive Sbs (ρ:Yl) (m:List Ent):List D->List D->Prop
 |nil:Sbs ρ m [] []
 |same {d l r} (hf:la d=true) (h:Sbs ρ m l r):Sbs ρ m (d::l) (d::r)
 |dead {d l r} (h:Sbs ρ m l r):Sbs ρ m (d::l) (.dead::r)
 |nils {S l r} (h:Sbs ρ m l r):Sbs ρ m (.v (.slice none 0 0)::l) (.sl S []::r)
 |mw {S u l r} (i:Nat) (hi:ρ[i]?=some (none,S,u)) (h:Sbs ρ m l r):Sbs ρ m (.v (.slice none 0 0)::l) (.own i u::r)
 |agg {a b l r} (ha:Sbs ρ m a b) (h:Sbs ρ m l r):Sbs ρ m (.agg a::l) (.agg b::r)
 |tup {a b l r} (ha:Sbs ρ m a b) (h:Sbs ρ m l r):Sbs ρ m (.tup a::l) (.tup b::r)
 |sl {S a b l r} (ha:Sbs ρ m a b) (h:Sbs ρ m l r):Sbs ρ m (.sl S a::l) (.sl S b::r)
 |own {j v u i l r} (hi:ρ[i]?=some (some j,v,u)) (h:Sbs ρ m l r):Sbs ρ m (.own j v::l) (.own i u::r)
 |ref {j v u i x s l r} (hi:ρ[i]?=some (some j,v,u)) (h:Sbs ρ m l r):Sbs ρ m (.ref j v x s::l) (.ref i u x s::r)
 |view {j v u i lo n l r} (hi:ρ[i]?=some (some j,v,u)) (h:Sbs ρ m l r):Sbs ρ m (.view j v lo n::l) (.view i u lo n::r)
 |mp {j i l r} (hi:ρ[i]?=some (some j,0,0)) (h:Sbs ρ m l r):Sbs ρ m (.mp j::l) (.mp i::r)
 |bf {S j v a b l r} (hm:m[j]?=some (.live S v a)) (ho:bq ρ j=true) (ha:Sbs ρ m a b) (h:Sbs ρ m l r):Sbs ρ m (.own j v::l) (.sl S b::r)
 |fview {S j v lo n a b l r} (hm:m[j]?=some (.live S v a)) (ho:bq ρ j=true) (hn:lo+n<=a.length) (ha:Sbs ρ m ((a.drop lo).take n) b) (h:Sbs ρ m l r):Sbs ρ m (.view j v lo n::l) (.sl S b::r)
 |fref {S j v x a d e l r} (hm:m[j]?=some (.live S v a)) (ho:bq ρ j=true) (hx:a[x]?=some d) (ha:Sbs ρ m [d] [e]) (h:Sbs ρ m l r):Sbs ρ m (.ref j v x 0::l) (.pt e::r)
 |pt {d e l r} (ha:Sbs ρ m [d] [e]) (h:Sbs ρ m l r):Sbs ρ m (.pt d::l) (.pt e::r)
 |fn {f a b c d l r} (ha:Sbs ρ m a b) (hc:Sbs ρ m c d) (h:Sbs ρ m l r):Sbs ρ m (.fn f a c::l) (.fn f b d::r)
 |ifc {t d e l r} (ha:Sbs ρ m [d] [e]) (h:Sbs ρ m l r):Sbs ρ m (.ifc t d::l) (.ifc t e::r)
def UY(es:List (Value×D)):Bool:=es.all λp=>la p.2
inductive Ets (ρ:Yl) (m:List Ent):Yl->List Ent->Prop
 |nil:Ets ρ m [] []
 |live {j v u S l l' os es} (hm:m[j]?=some (.live S v l)) (hl:Sbs ρ m l l') (h:Ets ρ m os es):Ets ρ m ((some j,v,u)::os) (.live S u l'::es)
 |new {S u os es} (h:Ets ρ m os es):Ets ρ m ((none,S,u)::os) (.live S u []::es)
 |mp {j es os ees} (hm:m[j]?=some (.mp es)) (hf:UY es=true) (h:Ets ρ m os ees):Ets ρ m ((some j,0,0)::os) (.mp es::ees)
structure Tell (ρ:Yl) (s S:St):Prop where
 t:Sbs ρ s.m s.t S.t
 m:Ets ρ s.m ρ S.m
 one:(ρ.filterMap (·.1)).Nodup
def pb(G:Gh) (m:List Ent) (ρ:Yl):Gh where
 F b:=G.F b\/(df G m b/\∀(i j:Nat) v,ρ[i]?=some (some j,v)->G.B j≠some b)
 n:=ρ.length
 B i:=match ρ[i]? with|some (some j,_)=>G.B j|_=>none
 V i:=match ρ[i]? with|some (_,_,u)=>u|_=>0
 S i:=match ρ[i]? with|some (some j,_)=>G.S j|some (none,S,_)=>S|_=>0
 N i:=match ρ[i]? with|some (some j,_)=>G.N j|_=>0
 C i:=match ρ[i]? with|some (some j,_)=>G.C j|_=>(0,0)
theorem ZO{ρ:Yl}{j:Nat}(h:bq ρ j=true):∀(i k:Nat) v,ρ[i]?=some (some k,v)->k≠j:=by
 grind[bq]
theorem BB{G:Gh}{w:World}{m:List Ent}{ρ:Yl}(hi:Inv G w m) (d:∀(i j:Nat) v,ρ[i]?=some (some j,v)->∃e:Ent,m[j]?=some e/\e.isLive=true) {j:Nat}{e:Ent}(hm:m[j]?=some e) (hl:e.isLive=true) (ho:bq ρ j=true) {b:Nat}(hb:G.B j=some b):(pb G m ρ).F b:=by
 refine .inr ⟨⟨j,e,hm,hl,hb⟩,λi k v a g=>?_⟩;obtain⟨e',c,f⟩:=d i k v a;exact ZO ho i k v a (hi.apart k j e' e c hm f hl b g hb)
theorem Sbs.length{ρ:Yl}{m:List Ent}{l r:List D}(h:Sbs ρ m l r):l.length=r.length:=by
 induction h<;>simp_all
theorem Xy{ρ:Yl}{i:Nat}{o:Option Nat×Nat×Nat}(h:ρ[i]?=some o):i<ρ.length:=by
 grind
theorem Sbs.rel{G:Gh}{w:World}{m:List Ent}{ρ:Yl}(hi:Inv G w m) (B:∀(i j:Nat) v,ρ[i]?=some (some j,v)->∃e:Ent,m[j]?=some e/\e.isLive=true/\(∀S H l,e=.live S H l->H=v.1)) {l r:List D}(h:Sbs ρ m l r) :
 (∀us,VsRel G w l us->VsRel (pb G m ρ) w r us)/\(∀b S off,Qa G w b S l off->Qa (pb G m ρ) w b S r off):=by
 have z:∀(i j:Nat) v,ρ[i]?=some (some j,v)->∃e:Ent,m[j]?=some e/\e.isLive=true:=λi j v h=>by grind
 have both:∀{d e:D} {l r:List D},(∀u,VRel G w d u->VRel (pb G m ρ) w e u)->
  ((∀us,VsRel G w l us->VsRel (pb G m ρ) w r us)/\(∀b S off,Qa G w b S l off->Qa (pb G m ρ) w b S r off))->
  ((∀us,VsRel G w (d::l) us->VsRel (pb G m ρ) w (e::r) us)/\(∀b S off,Qa G w b S (d::l) off->Qa (pb G m ρ) w b S (e::r) off)):=by
  intro d e l r h1 h2;refine⟨λus hv=>?_,λb S off hv=>?_⟩
  .simp only[VsRel]at hv⊢
   grind
  .simp only[Qa]at hv⊢
   grind
 have first:∀{d e:D},(∀us,VsRel G w [d] us->VsRel (pb G m ρ) w [e] us)->∀u,VRel G w d u->VRel (pb G m ρ) w e u:=by
  intro d e h u hu;have:=h [u] (by simp only[VsRel];simp_all);simp only[VsRel]at this
  simp_all
 induction h with
 |nil=>exact⟨λus h=>by simpa [VsRel] using h,λ_ _ _ _=>by simp[Qa]⟩
 |same hf h o=>exact both (λu hu=>VRel.free (G':=pb G m ρ) ⟨λ_ h=>Or.inl h,λ_ _=>rfl⟩ hf hu) o
 |dead h o=>exact both (λu _=>by simp[VRel]) o
 |nils h o=>exact both (λu hu=>by simp only[VRel]at hu⊢;grind) o
 |mw i k h o=>
  refine both (λu hu=>?_) o;simp only[VRel]at hu⊢;exact⟨none,0,0,hu,Xy k,by grind[pb],λ_=>by grind[pb]⟩
 |agg ha h q o=>
  refine both (λu hu=>?_) o;simp only[VRel]at hu⊢
  grind
 |tup ha h q o=>
  refine both (λu hu=>?_) o;simp only[VRel]at hu⊢
  grind
 |sl ha h q o=>
  refine both (λu hu=>?_) o;simp only[VRel]at hu⊢;obtain⟨a,n,cap,rfl,hn,hc,g⟩:=hu;refine⟨a,n,cap,rfl,by rw[←ha.length];omega,hc,?_⟩;rcases g with rfl|⟨b,off,rfl,F,hr⟩
  .exact .inl (Qaa ha.length.symm)
  .exact .inr ⟨b,off,rfl,.inl F,q.2 b _ off hr⟩
 |own k h o=>
  refine both (λu hu=>?_) o;obtain⟨e,he,hl,hv⟩:=B _ _ _ k;simp only[VRel]at hu⊢;obtain⟨a,n,c,rfl,g1,g2,g3⟩:=hu;refine⟨a,n,c,rfl,Xy k,by grind[pb],λ_=>?_⟩;have f:=hi.ent _ _ he
  cases e with
  |live S H l'=>
   obtain⟨y,_⟩:=f;have:=g3 (by grind)
   grind[pb]
  |mp es=>
   obtain⟨y,_⟩:=f
   grind[pb]
  |gone=>grind[Ent.isLive]
 |ref k h o=>
  refine both (λu hu=>?_) o;obtain⟨e,he,hl,hv⟩:=B _ _ _ k;simp only[VRel]at hu⊢;obtain⟨a,rfl,g1,g2,g3⟩:=hu;refine⟨a,rfl,Xy k,by grind[pb],λ_=>?_⟩;have f:=hi.ent _ _ he
  cases e with
  |live S H l'=>
   obtain⟨y,_⟩:=f;have:=g3 (by grind);simpa [pb,k] using this
  |mp es=>
   obtain⟨y,_⟩:=f;have:=g3 (by omega);simpa [pb,k] using this
  |gone=>grind[Ent.isLive]
 |view k h o=>
  refine both (λu hu=>?_) o;obtain⟨e,he,hl,hv⟩:=B _ _ _ k;simp only[VRel]at hu⊢;obtain⟨a,c,rfl,U,g1,g2,g3⟩:=hu;refine⟨a,c,rfl,U,Xy k,by grind[pb],λ_=>?_⟩;have f:=hi.ent _ _ he
  cases e with
  |live S H l'=>
   obtain⟨y,_⟩:=f;have:=g3 (by grind);simpa [pb,k] using this
  |mp es=>
   obtain⟨y,_⟩:=f;have:=g3 (by omega);simpa [pb,k] using this
  |gone=>grind[Ent.isLive]
 |mp k h o=>
  refine both (λu hu=>?_) o;simp only[VRel]at hu⊢;obtain⟨b,rfl,g1,g2⟩:=hu;obtain⟨e,he,hl,hv⟩:=B _ _ _ k;have f:=hi.ent _ _ he;refine⟨b,rfl,Xy k,λ_=>?_⟩
  cases e with
  |live S H l'=>
   obtain⟨y,_⟩:=f;have:=g2 (by grind)
   grind[pb]
  |mp es=>
   obtain⟨y,_⟩:=f
   grind[pb]
  |gone=>grind[Ent.isLive]
 |bf hm ho ha h q o=>
  refine both (λu hu=>?_) o;obtain⟨y,Q,M,R,A⟩:=hi.ent _ _ hm;simp only[VRel]at hu⊢;obtain⟨a,n,c,rfl,g1,g2,g3⟩:=hu;obtain⟨rfl,rfl,rfl⟩:=g3 y;refine⟨_,_,_,rfl,by rw[M,ha.length],by omega,?_⟩;rcases A with A|⟨L,cs,T,s,F,E,J,t⟩
  .have N:=congrArg pae A.2;dsimp only at N;exact .inl (Qaa (by have:=ha.length;omega))
  .exact .inr ⟨L,(G.C _).2,by simp_all,BB hi z hm rfl ho s,q.2 L _ _ t⟩
 |@fview S j v lo n a b l r hm ho hn ha h q o=>
  refine both (λu hu=>?_) o;obtain⟨y,Q,M,R,A⟩:=hi.ent _ _ hm;simp only[VRel]at hu⊢;obtain⟨p,c,rfl,P,O,K,hx⟩:=hu;have I:=ha.length;rw[List.length_take,List.length_drop]at I;refine⟨p,_,c,rfl,by omega,P,?_⟩;rcases hx y with rfl|⟨b,hb,rfl⟩
  .grind
  .rcases A with A|⟨L,cs,T,s,F,E,J,t⟩
   .simp_all
   .rw[hb]at s;injection s with s;subst s;refine .inr ⟨_,_,rfl,BB hi z hm rfl ho hb,q.2 _ _ _ ?_⟩
    grind[Ms,Ls]
 |fref hm ho hx ha h q o=>
  refine both (λu hu=>?_) o;obtain⟨y,Q,M,R,A⟩:=hi.ent _ _ hm;simp only[VRel]at hu⊢;obtain⟨p,rfl,O,K,W⟩:=hu;obtain⟨b,hb,rfl⟩:=W y;rcases A with A|⟨L,cs,T,s,F,E,J,t⟩
  .simp_all
  .rw[hb]at s;injection s with s;subst s;obtain⟨u,X,k2,k3⟩:=Ee.1 t _ _ hx;refine⟨b,_,u,rfl,BB hi z hm rfl ho hb,first q.1 u X,?_⟩
   grind
 |pt ha h q o=>
  refine both (λu hu=>?_) o;simp only[VRel]at hu⊢;obtain⟨b,off,x,rfl,F,hd,V⟩:=hu;exact⟨b,off,x,rfl,.inl F,first q.1 x hd,V⟩
 |fn ha hc h q ihc o=>
  refine both (λu hu=>?_) o;simp only[VRel]at hu⊢
  grind
 |ifc ha h q o=>
  refine both (λu hu=>?_) o;simp only[VRel]at hu⊢
  grind
theorem Ets.get{ρ:Yl}{m:List Ent}{os:Yl}{es:List Ent}(h:Ets ρ m os es):os.length=es.length/\∀(i:Nat) e,es[i]?=some e->
 (∃j v u S l l',os[i]?=some (some j,v,u)/\m[j]?=some (.live S v l)/\Sbs ρ m l l'/\e=.live S u l')\/(∃S u,os[i]?=some (none,S,u)/\e=.live S u [])\/(∃j l,os[i]?=some (some j,0,0)/\m[j]?=some (.mp l)/\UY l=true/\e=.mp l):=by
 induction h with
 |nil=>simp
 |live hm hl h a=>
  grind
 |new h a=>
  grind
 |mp hm hf h a=>
  grind
theorem Ets.src{ρ:Yl}{m:List Ent}{os:Yl}{es:List Ent}(h:Ets ρ m os es):∀(i j:Nat) v,os[i]?=some (some j,v)->∃e:Ent,m[j]?=some e/\e.isLive=true/\(∀S a l,e=.live S a l->a=v.1):=by
 induction h with
 |nil=>simp
 |live hm hl h b=>
  intro i j v hi
  cases i with
  |zero=>
   simp only[Zaa,aab,Paa]at hi;obtain⟨rfl,rfl⟩:=hi;exact⟨_,hm,rfl,λS a l he=>by simp_all⟩
  |succ i=>grind
 |new h b=>
  grind
 |mp hm hf h b=>
  intro i j v hi
  cases i with
  |zero=>
   simp only[Zaa,aab,Paa]at hi;obtain⟨rfl,rfl⟩:=hi;exact⟨_,hm,rfl,λS a l he=>nomatch he⟩
  |succ i=>grind
theorem xd.free{G G':Gh}{w:World}(a:∀b,G.F b->G'.F b):∀{l:List (Value×D)}{es:List MapEntry},UY l=true->xd G w l es->xd G' w l es
 |[],es,_,h=>h
 |(k,d)::l,es,hf,h=>by
  simp only[UY,Gab,Caa]at hf;obtain⟨e,r,c,f,h2,g⟩:=h;exact⟨e,r,c,f,VRel.free (G':=G') ⟨λ_ h=>a _ h,λ_ _=>rfl⟩ hf.1 h2,xd.free a hf.2 g⟩
theorem xH{ρ:Yl}(h:(ρ.filterMap (·.1)).Nodup):∀(i a j:Nat) v b,ρ[i]?=some (some j,v)->ρ[a]?=some (some j,b)->i=a:=by
 induction ρ with
 |nil=>simp
 |cons o os ih=>
  grind
def Hw(ρ:Yl):Nat->Bool
 |0=>true
 |n+1=>Hw ρ n&&(match ρ[n]? with|some (some j,v,u)=>j==n&&decide (v<=u)|_=>false)
theorem cB{ρ:Yl}:∀{n:Nat},Hw ρ n=true->∀i,i<n->∃v u,v<=u/\ρ[i]?=some (some i,v,u)
 |0,_,i,hi=>absurd hi (Yad i)
 |n+1,h,i,hi=>by
  simp only[Hw,Caa]at h;rcases Nat.lt_or_ge i n with a|a
  .exact cB h.1 i a
  grind
theorem az{N:Nat}{ρ:Yl}{s S:St}(hk:Hw ρ N=true) (h:Tell ρ s S) {G:Gh}{w:World}{a:Act}(hr:Rel G w a s):Rel (pb G s.m ρ) w a S/\StepN N G w s.m (pb G s.m ρ) w S.m:=by
 have hi:=hr.inv;have p:=h.m.src;have d:=h.m.get;have hrow:∀{l r:List D},Sbs ρ s.m l r->∀b S off,Qa G w b S l off->Qa (pb G s.m ρ) w b S r off:=λP=>(P.rel hi p).2;have q:∀b,df (pb G s.m ρ) S.m b->df G s.m b:=by
  rintro b ⟨i,e,he,hl,hB⟩;rcases d.2 i e he with⟨j,v,u,S',l,l',c,h2,f,rfl⟩|⟨S',u,c,rfl⟩|⟨j,l,c,h2,f,rfl⟩
  .exact⟨j,_,h2,rfl,by grind[pb]⟩
  .grind[pb]
  .exact⟨j,_,h2,rfl,by grind[pb]⟩
 refine⟨⟨(h.t.rel hi p).1 _ hr.t,⟨d.1,?_,?_,?_,hi.gl.bare λ_ h=>.inl h⟩,hr.defers⟩,⟨λ_ hb=>.inl hb,λ_ _=>rfl,?_,?_,rfl,rfl,rfl,Haa _,λ_ _ _=>rfl,?_,λb _ hb=>q b hb⟩⟩
 .rintro b (hb|hb)
  .exact hi.F b hb
  .exact(df.lt hi hb.1).1
 .intro i e he;rcases d.2 i e he with⟨j,v,u,S',l,l',c,h2,f,rfl⟩|⟨S',u,c,rfl⟩|⟨j,l,c,h2,f,rfl⟩
  rotate_left 2
  .obtain⟨J,z,L,K,o,O,g,x⟩:=hi.ent _ _ h2;refine⟨by grind[pb],z,L,K,by grind[pb],?_,g,xd.free (G':=pb G s.m ρ) (λ_ h=>Or.inl h) f x⟩;rintro(hb|⟨_,hb⟩)
   all_goals grind
  .obtain⟨J,a2,a3,a4,H⟩:=hi.ent _ _ h2;have hlen:=f.length;refine⟨by grind[pb],by grind[pb],by grind[pb],by grind[pb],?_⟩;rcases H with H|⟨z,cs,T,o,O,g,hsz,x⟩
   .grind[pb]
   .refine .inr ⟨z,cs,T,by grind[pb],?_,g,by grind[pb],by grind[pb]⟩;rintro(hb|⟨_,hb⟩)
    all_goals grind
  .exact⟨by grind[pb],by grind[pb],by grind[pb],by simp,.inl (by grind[pb])⟩
 .intro i Q e e' he C hl hl' b hb o;have src:∀(i:Nat) e,S.m[i]?=some e->(pb G s.m ρ).B i=some b->∃j v A,ρ[i]?=some (some j,v)/\s.m[j]?=some A/\A.isLive=true/\G.B j=some b:=by
   intro i e he hb;rcases d.2 i e he with⟨j,v,u,S1,l,l',c,h2,f,rfl⟩|⟨S1,u,c,rfl⟩|⟨j,l,c,h2,f,rfl⟩
   .exact⟨j,_,_,c,h2,rfl,by grind[pb]⟩
   .grind[pb]
   .exact⟨j,_,_,c,h2,rfl,by grind[pb]⟩
  obtain⟨j,v,A,c,h2,f,y⟩:=src i e he hb;obtain⟨I,R,e0',g1,g2,g3,g4⟩:=src Q e' C o;have hj:j=I:=hi.apart j I _ _ h2 g2 f g3 b y g4;subst hj;exact xH h.one _ _ _ _ _ c g1
 .cases N with
  |zero=>omega
  |succ n=>
   obtain⟨v,u,-,hv⟩:=cB hk n (Tad n);exact Xy hv
 .intro i E;obtain⟨v,u0,hvu,hv⟩:=cB hk i E;obtain⟨e,he,hl,hver⟩:=p _ _ _ hv;have hent:=hi.ent _ _ he;have hV:G.V i=v:=by
   rcases d.2 i _ (qaa (by grind))with⟨j,R,u,S',l,l',c,h2,f,y⟩|⟨S',u,c,y⟩|⟨j,l,c,h2,f,y⟩
   .rw[hv]at c;injection c with c;injection c with k c;injection k with k;injection c with c M;subst k;subst c;exact(hi.ent _ _ h2).1
   .simp_all
   .rw[hv]at c;injection c with c;injection c with k c;injection k with k;injection c with c M;subst k;subst c;exact(hi.ent _ _ h2).1
  grind[pb]
 .rintro b _ (hb|⟨hb,_⟩)
  all_goals simp_all
theorem T.tell{N:Nat}(ρ:Yl) {c:C}{K:Exit->St->Prop}{s S:St}(hk:Hw ρ N=true) (h:Tell ρ s S) (b:Tm.T P N c K S):Tm.T P N c K s:=
 T.ghost (λG w a _ hr=>⟨_,(az hk h hr).1,(az hk h hr).2⟩) b
variable {P:Program} {N:Nat}
inductive Ex (σ β ρ:Type) where
 |go (s:σ)
 |brk (b:β)
 |ret (v:ρ)
section
variable {σ β ρ:Type}
def Ep(step:σ->Option (Ex σ β ρ)):Nat->σ->Option (β⊕ρ)
 |0,_=>none
 |n+1,s=>
  match step s with
  |none=>none
  |some (.go s')=>Ep step n s'
  |some (.brk b)=>some (.inl b)
  |some (.ret v)=>some (.inr v)
theorem Qy{step:σ->Option (Ex σ β ρ)}:∀{n:Nat}{s:σ}{r},Ep step n s=some r->∀k,Ep step (n+k) s=some r
 |0,s,r,h,k=>by grind[Ep]
 |n+1,s,r,h,k=>by
  rw[show n+1+k=(n+k)+1 by omega];simp only[Ep]at h⊢;split
  .simp_all
  .rename_i a;rw[a]at h;exact Qy h k
  all_goals simp_all
open Classical in
noncomputable def ja(step:σ->Option (Ex σ β ρ)) (s:σ):Option (β⊕ρ):=
 if h:∃n r,Ep step n s=some r then some h.choose_spec.choose else none
theorem KE{step:σ->Option (Ex σ β ρ)}{s:σ}{n:Nat}{r}(h:Ep step n s=some r):ja step s=some r:=by
 have a:∃n r,Ep step n s=some r:=⟨n,r,h⟩;unfold ja;rw[dif_pos a];have h1:=Qy a.choose_spec.choose_spec n
 grind[Qy]
theorem qH{step:σ->Option (Ex σ β ρ)}{s:σ}{r}:ja step s=some r↔∃n,Ep step n s=some r:=by
 grind[ja,KE]
theorem ud{step:σ->Option (Ex σ β ρ)}{s s':σ}(h:step s=some (.go s')):ja step s=ja step s':=by
 apply Option.ext;intro r;simp only[qH];constructor
 .rintro⟨n,hn⟩
  cases n with
  |zero=>grind[Ep]
  |succ n=>grind[Ep]
 .rintro⟨n,hn⟩;exact⟨n+1,by grind[Ep]⟩
theorem Gb{step:σ->Option (Ex σ β ρ)}{s:σ}{b:β}(h:step s=some (.brk b)):ja step s=some (.inl b):=KE (n:=1) (by grind[Ep])
theorem aq{step:σ->Option (Ex σ β ρ)}{s:σ}{v:ρ}(h:step s=some (.ret v)):ja step s=some (.inr v):=KE (n:=1) (by grind[Ep])
end
inductive Tells (N:Nat):St->St->Prop
 |refl (s:St):Tells N s s
 |step {s s' S:St} (ρ:Yl) (hk:Hw ρ N=true) (h:Tell ρ s s') (t:Tells N s' S):Tells N s S
theorem Tells.one{s S:St}(ρ:Yl) (hk:Hw ρ N=true) (h:Tell ρ s S):Tells N s S:=.step ρ hk h (.refl S)
theorem Tells.trans{a b c:St}(h:Tells N a b) (k:Tells N b c):Tells N a c:=by
 induction h with
 |refl=>exact k
 |step ρ hk h t d=>exact .step ρ hk h (d k)
theorem T.LF{c:C}{K:Exit->St->Prop}{s S:St}(h:Tells N s S) (hT:Tm.T P N c K S):Tm.T P N c K s:=by
 induction h with
 |refl=>omega
 |step ρ hk h t ih=>grind[T.tell]
def C5(N:Nat) (K:Exit->St->Prop):Prop:=∀s S,Tells N s S->K .normal S->K .normal s
theorem stb_S{b:C}{K:Exit->St->Prop}:C5 N (KS P N b K):=λs S h k=>T.LF h k
theorem stb_B{id:Nat}{K:Exit->St->Prop}(h:C5 N K):C5 N (KB id K):=h
def KL{σ β ρ:Type}(N id:Nat) (K:Exit->St->Prop) (S:σ->St) (B:β->St) (z:Ex σ β ρ) (e:Exit) (s':St):Prop:=
 match e with
 |.normal=>match z with|.go x=>Tells N s' (S x)|_=>False
 |.exit j=>if j=id then(match z with|.brk b=>Tells N s' (B b)|_=>False)else K (.exit j) s'
 |e=>K e s'
section
variable {σ β ρ:Type} {id:Nat} {K:Exit->St->Prop} {S:σ->St} {B:β->St} {s':St}
theorem w5{x:σ}:KL N id K S B (.go x:Ex σ β ρ) .normal s'=Tells N s' (S x):=paa rfl rfl
theorem U6{b:β}{j:Nat}:KL N id K S B (.brk b:Ex σ β ρ) (.exit j) s'=if j=id then Tells N s' (B b)else K (.exit j) s':=paa rfl rfl
theorem W6{z:Ex σ β ρ}:KL N id K S B z .ret s'=K .ret s':=paa rfl rfl
theorem V6{v:ρ}{j:Nat}:KL N id K S B (.ret v:Ex σ β ρ) (.exit j) s'=if j=id then False else K (.exit j) s':=paa rfl rfl
theorem stb_L{z:Ex σ β ρ}:C5 N (KL N id K S B z):=by
 intro s S' h k
 cases z with
 |go x=>exact h.trans k
 |_=>exact k.elim
theorem T.ja{x:C}{s:St}(S:σ->St) (B:β->St) (step:σ->Option (Ex σ β ρ)) (x0:σ) {y:β⊕ρ}(g:Tm.ja step x0=some y) (l:Tells N s (S x0)) (f:C5 N K)
 (round:∀a z,step a=some z->(∀v,z=.ret v->y=.inr v)->Tm.T P N x (KL N id K S B z) (S a))
 (rest:∀b,y=.inl b->K .normal (B b)):Tm.T P N (.block id (.loop x)) K s:=by
 obtain⟨n,hn⟩:=qH.1 g;clear g;refine T.block (T.Z5 (X:=Nat×σ) (λp s=>Tells N s (S p.2)/\Ep step p.1 p.2=some y) (λp=>p.1) (n,x0) ⟨l,hn⟩ ?_);rintro⟨n,k⟩ s1 ⟨d,c⟩;refine T.LF d ?_
 cases n with
 |zero=>grind[Ep]
 |succ n=>
  cases i:step k with
  |none=>grind[Ep]
  |some z=>
   simp only[Ep,i]at c;refine(round k z i (λv hv=>by simp_all)).mono ?_;intro e s' h
   cases e with
   |normal=>
    cases z with
    |go m=>exact⟨(n,m),⟨by grind[w5],c⟩,Tad n⟩
    |_=>exact(h:False).elim
   |exit j=>
    simp only[KL]at h⊢;split
    .rename_i hj;rw[if_pos hj]at h
     cases z with
     |brk b=>exact f _ _ h (rest b (Raa c).symm)
     |_=>simp_all
    simp_all
   |ret=>exact h
   |_=>exact h
end
def KJ{X R:Type}(N:Nat) (K:Exit->St->Prop) (S:X->St) (z:X⊕R) (e:Exit) (s':St):Prop:=
 match e with
 |.normal=>match z with|.inl x=>Tells N s' (S x)|.inr _=>False
 |e=>K e s'
section
variable {X R:Type} {K:Exit->St->Prop} {S:X->St} {s':St}
theorem KG{x:X}:KJ N K S (.inl x:X⊕R) .normal s'=Tells N s' (S x):=paa rfl rfl
theorem OX{z:X⊕R}{j:Nat}:KJ N K S z (.exit j) s'=K (.exit j) s':=paa rfl rfl
theorem T6{z:X⊕R}:KJ N K S z .ret s'=K .ret s':=paa rfl rfl
theorem stb_J{z:X⊕R}:C5 N (KJ N K S z):=by
 intro s S' h k
 cases z with
 |inl x=>exact h.trans k
 |inr _=>exact k.elim
theorem T.join{a b:C}{s:St}(S:X->St) (z:X⊕R) (ha:Tm.T P N a (KJ N K S z) s) (hb:∀x,z=.inl x->Tm.T P N b K (S x)):Tm.T P N (.seq a b) K s:=by
 refine T.seq (ha.mono ?_);intro e s' h
 cases e with
 |normal=>
  cases z with
  |inl x=>exact T.LF (by grind[KG]) (hb x rfl)
  |inr _=>exact(h:False).elim
 |_=>exact h
end
variable {P:Program}
def Den(P:Program) (k:Nat) (ds:List D) (o:D):Prop:=∀m,CallT P k ds m λd m'=>d=o/\m'=m
theorem BF{m:List Ent}{l r:List D}(h:Sbs [] m l r):fa r=true:=by
 induction h<;>simp_all[fa,la]
theorem Sbs.v{ρ:Yl}{m:List Ent}{x:Value}{l r:List D}(h:Sbs ρ m l r):Sbs ρ m (.v x::l) (.v x::r):=.same rfl h
theorem Sbs.free{ρ:Yl}{m:List Ent}:∀{l:List D},fa l=true->Sbs ρ m l l
 |[],_=>.nil
 |d::l,h=>by simp only[fa,Caa]at h;exact .same h.1 (Sbs.free h.2)
theorem Sbs.app{ρ:Yl}{m:List Ent}{a b c d:List D}(f:Sbs ρ m a b) (h2:Sbs ρ m c d):Sbs ρ m (a++c) (b++d):=by
 induction f with
 |nil=>exact h2
 |same hf h e=>exact .same hf e
 |dead h e=>exact .dead e
 |nils h e=>exact .nils e
 |mw i hi h e=>exact .mw i hi e
 |agg ha h _ e=>exact .agg ha e
 |tup ha h _ e=>exact .tup ha e
 |sl ha h _ e=>exact .sl ha e
 |own hi h e=>exact .own hi e
 |ref hi h e=>exact .ref hi e
 |view hi h e=>exact .view hi e
 |mp hi h e=>exact .mp hi e
 |bf hm ho ha h _ e=>exact .bf hm ho ha e
 |fview hm ho hn ha h _ e=>exact .fview hm ho hn ha e
 |fref hm ho hx ha h _ e=>exact .fref hm ho hx ha e
 |pt ha h _ e=>exact .pt ha e
 |fn ha hc h _ _ e=>exact .fn ha hc e
 |ifc ha h _ e=>exact .ifc ha e
class Fr {α:Type} (e:α->D):Prop where
 h:∀x,la (e x)=true
theorem Mz{α:Type}{e:α->D}(h:∀x,la (e x)=true):∀l:List α,fa (l.map e)=true
 |[]=>rfl
 |x::l=>by simp[fa,h x,Mz h l]
theorem Fr.l{α:Type}{e:α->D} [Fr e] (l:List α):fa (l.map e)=true:=Mz Fr.h l
theorem Fr.s{α:Type}{e:α->D} [Fr e] (S:Nat) (l:List α):la (.sl S (l.map e))=true:=Fr.l (e:=e) l
theorem jq{N:Nat}{s S:St}(h:Tells N s S):∀{G:Gh}{w:World}{a:Act},N<=G.n->Rel G w a s->∃G',Rel G' w a S/\StepN N G w s.m G' w S.m:=by
 induction h with
 |refl s=>grind[StepN.refl]
 |step ρ hk h t e=>
  intro G w a hN hr;obtain⟨b,h2⟩:=az hk h hr;obtain⟨G',c,d⟩:=e h2.n b;exact⟨G',c,h2.trans d⟩
def jG(rs:List RV) (o:D) (e:Exit) (s:St):Prop:=
 match e with
 |.normal=>∃S,Tells 0 s S/\∃ds,Eb S rs=some ds/\Sbs [] S.m [yn ds] [o]
 |.ret=>∃S,Tells 0 s S/\∃ds,Eb S rs=some ds/\Sbs [] S.m [yn ds] [o]
 |_=>False
def YJ(r:Option (List D)) (m:List Ent) (o:D):Prop:=∃ds,r=some ds/\Sbs [] m [yn ds] [o]
def Fin(m:List Ent) (d o:D):Prop:=Sbs [] m [d] [o]
theorem gn{ds:List D}{m:List Ent}{o:D}:YJ (some ds) m o=Fin m (yn ds) o:=by simp[YJ,Fin]
@[congr] theorem A8{r a:Option (List D)} {m:List Ent} {o:D} (h:r=a):YJ r m o=YJ a m o:=by rw[h]
theorem qo{rs:List RV}{o:D}{s:St}(h:YJ (Eb s rs) s.m o):jG rs o .ret s:=by
 obtain⟨ds,a,h2⟩:=h;exact⟨s,.refl s,ds,a,h2⟩
theorem stb_F{rs:List RV}{o:D}:C5 0 (jG rs o):=by
 rintro s S h ⟨S',a,h2⟩;exact⟨S',h.trans a,h2⟩
theorem ND{f:FuncId}{ds:List D}{o:D}(hf:fa ds=true) (h:CallT P f ds [] λd m'=>Sbs [] m' [d] [o]):Den P f ds o:=by
 refine λm=>⟨h.1,λG w vs hv hi=>?_⟩;have l:=h.2 (Gh.bare G.F) w vs (VsRel.free (G:=G) (G':=Gh.bare G.F) ⟨λ_ h=>h,λ_ _=>rfl⟩ hf hv) (Oz hi.F (hi.gl.bare λ_ h=>h));refine l.mono ?_;rintro e w' ⟨v,d,m',G',rfl,g,hvd,c,q⟩;obtain⟨-,-,p⟩:=OG hi q c (λ_ h=>h);obtain⟨g1,g2⟩:=p λ_ h=>h;refine⟨v,o,m,_,rfl,⟨rfl,rfl⟩,?_,g1,g2⟩;have k:=(g.rel c (λi j v h=>by grind)).1 [v] (by simp only[VsRel];simp_all);simp only[VsRel]at k;obtain⟨u,us,he,n,_⟩:=k;injection he with he _;subst he;have a:=BF g;simp only[fa,Jaa]at a;refine VRel.free (G:=pb G' m' []) (G':={ G with F:=λb=>G'.F b\/df G' m' b }) ⟨?_,λ_ _=>rfl⟩ a n;rintro b (hb|⟨hb,_⟩)
 all_goals simp_all
theorem Den.of{k:Nat}{F:Fun}{ds:List D}{o:D}(g:ou P k=some F) (b:((P.funcs[k]?).map λfn=>fn.name == "runtime.NumGoroutine")=some false) (hf:fa ds=true)
 (h:T P 0 F.code (jG F.results o) ⟨ds++raa (F.ntmps-ds.length) .dead,[]⟩):Den P k ds o:=by
 refine ND hf (Aj g b ?_);refine T.tT (h.mono ?_);have key:∀(e:Exit) (s:St),(∀s',Cy F.results (λd m'=>Sbs [] m' [d] [o]) e s' = ∃ds,Eb s' F.results=some ds/\Sbs [] s'.m [yn ds] [o])->(∃S,Tells 0 s S/\∃ds,Eb S F.results=some ds/\Sbs [] S.m [yn ds] [o])->lJ 0 (Cy F.results λd m'=>Sbs [] m' [d] [o]) e s:=by
  intro e s he ⟨S,f,h2⟩ G w a hN hr;obtain⟨G',h3,h4⟩:=jq f hN hr
  grind
 intro e s c
 cases e with
 |normal=>exact key _ s (λ_=>rfl) c
 |ret=>exact key _ s (λ_=>rfl) c
 |_=>exact(c:False).elim
theorem Hy{k:Nat}{ds ds':List D}{o:D}{m:List Ent}{f:D->List Ent->Prop}(h:Den P k ds' o) (q:Sbs [] m ds ds') (a:flat o=true) (hf:f o m):Je P k ds m f:=by
 refine bc (m1:=m) (d1:=o) ⟨(h []).1,λG w vs hv hi=>?_⟩ hf;have n:=(q.rel hi (λi j v h=>by grind)).1 vs hv;have l:VsRel (Gh.bare (pb G m []).F) w ds' vs:=VsRel.free (G:=pb G m []) ⟨λ_ h=>h,λ_ _=>rfl⟩ (BF q) n;have r:=(h []).2 _ w vs l (Oz (λb hb=>by
  rcases hb with hb|⟨hb,_⟩
  .exact hi.F b hb
  .exact(df.lt hi hb).1) (hi.gl.bare λ_ h=>.inl h))
 refine r.mono ?_;rintro e w' ⟨v,d,m',G',rfl,⟨rfl,-⟩,p,c,g⟩;obtain⟨-,h2,-⟩:=OG hi g c (λ_ h=>.inl h);exact⟨v,d,m,G,rfl,⟨rfl,rfl⟩,p.flat a,h2.1,h2.2⟩
def idx{α:Type}(l:List α) (i:Int):Option α:=if 0<=i then l[i.toNat]? else none
def app{α:Type}(b:Nat) (l r:List α):Option (List α):=if(l.length+r.length)*b<=2 ^ 47 then some (l++r)else none
def put{α:Type}(l:List α) (i:Int) (x:α):Option (List α):=if 0<=i/\i.toNat<l.length then some (l.set i.toNat x)else none
def Nw{α:Type}(b:Nat) (x:α) (n c:Int):Option (List α):=if 0<=n/\n<=c/\c<=2 ^ 62/\c.toNat*b<=2 ^ 48 then some (raa n.toNat x)else none
def quo(k:IntKind) (a b:Int):Option Int:=if b=0 then none else some (ca k (a.tdiv b))
def rem(k:IntKind) (a b:Int):Option Int:=if b=0 then none else some (a.tmod b)
theorem Gw{α:Type}{l:List α}{i:Int}{x:α}(h:idx l i=some x):0<=i/\l[i.toNat]?=some x:=by
 grind[idx]
theorem US{α:Type}{b:Nat}{l r x:List α}(h:app b l r=some x):(l.length+r.length)*b<=140737488355328/\x=l++r:=by
 grind[app]
theorem JV{α:Type}{l x:List α}{i:Int}{y:α}(h:put l i y=some x):0<=i/\i.toNat<l.length/\x=l.set i.toNat y:=by
 grind[put]
theorem qV{α:Type}{b:Nat}{x:α}{n c:Int}{l:List α}(h:Nw b x n c=some l):0<=n/\n<=c/\c<=4611686018427387904/\c.toNat*b<=281474976710656/\l=raa n.toNat x:=by
 grind[Nw]
theorem qi{α β:Type}{o:Option α}{f:α->Option β}{r:β}(h:o.bind f=some r):∃x,o=some x/\f x=some r:=aac.1 h
variable {P:Program} {N:Nat}
def dz(f:D->D->Prop):List D->List D->Prop
 |[],[]=>True
 |d::l,e::r=>f d e/\dz f l r
 |_,_=>False
def Rv(f:D->D->Prop) (a b:List D):Prop:=(a=b/\fa a=true)\/dz f a b
def Sq(ρ:Yl) (m:List Ent):Nat->D->D->Prop
 |0,_,_=>False
 |n+1,d,e=>
  match e with
  |.dead=>True
  |.v y=>match d with|.v x=>x=y|_=>False
  |.agg b=>match d with|.agg a=>Rv (Sq ρ m n) a b|_=>False
  |.tup b=>match d with|.tup a=>Rv (Sq ρ m n) a b|_=>False
  |.sl S b=>
   match d with
   |.v x=>x=.slice none 0 0/\b=[]
   |.sl S' a=>S'=S/\Rv (Sq ρ m n) a b
   |.own j v=>
    match m[j]? with
    |some (.live S' g a)=>S'=S/\g=v/\bq ρ j=true/\Rv (Sq ρ m n) a b
    |_=>False
   |.view j v lo k=>
    match m[j]? with
    |some (.live S' g a)=>S'=S/\g=v/\bq ρ j=true/\lo+k<=a.length/\Rv (Sq ρ m n) ((a.drop lo).take k) b
    |_=>False
   |_=>False
  |.own i u=>
   match d with
   |.own j v=>ρ[i]?=some (some j,v,u)
   |.v x=>x=.slice none 0 0/\∃S,ρ[i]?=some (none,S,u)
   |_=>False
  |.ref i u x s=>match d with|.ref j v p s'=>ρ[i]?=some (some j,v,u)/\p=x/\s'=s|_=>False
  |.view i u lo k=>match d with|.view j v h o=>ρ[i]?=some (some j,v,u)/\h=lo/\o=k|_=>False
  |.pt e'=>
   match d with
   |.pt d'=>(d'=e'/\la d'=true)\/Sq ρ m n d' e'
   |.ref j v x s=>
    match m[j]? with
    |some (.live _ g a)=>g=v/\s=0/\bq ρ j=true/\(match a[x]? with|some d'=>(d'=e'/\la d'=true)\/Sq ρ m n d' e'|none=>False)
    |_=>False
   |_=>False
  |.fn f b d'=>match d with|.fn l a c=>l=f/\Rv (Sq ρ m n) a b/\Rv (Sq ρ m n) c d'|_=>False
  |.mp i=>match d with|.mp j=>ρ[i]?=some (some j,0,0)|_=>False
  |.ifc t e'=>match d with|.ifc t' d'=>t'=t/\((d'=e'/\la d'=true)\/Sq ρ m n d' e')|_=>False
theorem Mt{ρ:Yl}{m:List Ent}{f:D->D->Prop}(hf:∀d e l r,f d e->Sbs ρ m l r->Sbs ρ m (d::l) (e::r)):∀{a b:List D},dz f a b->Sbs ρ m a b
 |[],[],_=>.nil
 |d::l,e::r,h=>hf d e l r h.1 (Mt hf h.2)
 |[],_::_,h=>h.elim
 |_::_,[],h=>h.elim
theorem Nt{ρ:Yl}{m:List Ent}{f:D->D->Prop}(hf:∀d e l r,f d e->Sbs ρ m l r->Sbs ρ m (d::l) (e::r)) {a b:List D}(h:Rv f a b):Sbs ρ m a b:=by
 rcases h with⟨rfl,h⟩|h
 all_goals grind[Sbs.free,Mt]
theorem Ts{ρ:Yl}{m:List Ent}:∀(n:Nat) (d e:D) (l r:List D),Sq ρ m n d e->Sbs ρ m l r->Sbs ρ m (d::l) (e::r)
 |0,d,e,l,r,h,_=>h.elim
 |n+1,d,e,l,r,h,c=>by
  have g:=Ts (ρ:=ρ) (m:=m) n;have one:∀d' e',((d'=e'/\la d'=true)\/Sq ρ m n d' e')->Sbs ρ m [d'] [e']:=by
   rintro d' e' (⟨rfl,h⟩|h)
   .exact .same h .nil
   .exact g _ _ _ _ h .nil
  cases e with
  |dead=>exact .dead c
  |v y=>cases d<;>simp only[Sq]at h;subst h;exact .v c
  |agg b=>cases d<;>simp only[Sq]at h;exact .agg (Nt g h) c
  |tup b=>cases d<;>simp only[Sq]at h;exact .tup (Nt g h) c
  |sl S b=>
   cases d with
   |v x=>simp only[Sq]at h;obtain⟨rfl,rfl⟩:=h;exact .nils c
   |sl S' a=>simp only[Sq]at h;obtain⟨rfl,h⟩:=h;exact .sl (Nt g h) c
   |own j v=>
    simp only[Sq]at h;split at h
    .rename_i S' o a hm;obtain⟨rfl,rfl,ho,h⟩:=h;exact .bf hm ho (Nt g h) c
    simp_all
   |view j v lo k=>
    simp only[Sq]at h;split at h
    .rename_i S' o a hm;obtain⟨rfl,rfl,ho,hl,h⟩:=h;exact .fview hm ho hl (Nt g h) c
    simp_all
   |_=>simp only[Sq]at h
  |own i u=>
   cases d with
   |own j v=>simp only[Sq]at h;exact .own h c
   |v x=>simp only[Sq]at h;obtain⟨rfl,S,h⟩:=h;exact .mw i h c
   |_=>simp only[Sq]at h
  |ref i u x s=>cases d<;>simp only[Sq]at h;obtain⟨h,rfl,rfl⟩:=h;exact .ref h c
  |view i u lo k=>cases d<;>simp only[Sq]at h;obtain⟨h,rfl,rfl⟩:=h;exact .view h c
  |pt e'=>
   cases d with
   |pt d'=>simp only[Sq]at h;exact .pt (one _ _ h) c
   |ref j v x s=>
    simp only[Sq]at h;split at h
    .rename_i S' o a hm;obtain⟨rfl,rfl,ho,h⟩:=h;split at h
     .rename_i d' hd;exact .fref hm ho hd (one _ _ h) c
     simp_all
    simp_all
   |_=>simp only[Sq]at h
  |fn f b d'=>cases d<;>simp only[Sq]at h;obtain⟨rfl,p,h2⟩:=h;exact .fn (Nt g p) (Nt g h2) c
  |mp i=>cases d<;>simp only[Sq]at h;exact .mp h c
  |ifc t e'=>cases d<;>simp only[Sq]at h;obtain⟨rfl,h⟩:=h;exact .ifc (one _ _ h) c
def HB(ρ:Yl) (m:List Ent):Yl->List Ent->Prop
 |[],[]=>True
 |(some j,v,u)::os,.live S c b::es=>u=c/\(match m[j]? with|some (.live S' d a)=>S'=S/\d=v/\Rv (Sq ρ m 9) a b|_=>False)/\HB ρ m os es
 |(none,S,u)::os,.live S' c b::es=>S=S'/\u=c/\b=[]/\HB ρ m os es
 |(some j,v,u)::os,.mp b::es=>v=0/\u=0/\(match m[j]? with|some (.mp a)=>a=b/\UY b=true|_=>False)/\HB ρ m os es
 |_,_=>False
theorem YC{ρ:Yl}{m:List Ent}:∀{os:Yl}{es:List Ent},HB ρ m os es->Ets ρ m os es
 |[],[],_=>.nil
 |(some j,v,u)::os,.live S d b::es,h=>by
  simp only[HB]at h;obtain⟨rfl,c,h2⟩:=h;split at c
  .rename_i S' v' a hm;obtain⟨rfl,rfl,c⟩:=c;exact .live hm (Nt (Ts 9) c) (YC h2)
  simp_all
 |(none,S,u)::os,.live S' d b::es,h=>by
  simp only[HB]at h;obtain⟨rfl,rfl,rfl,h2⟩:=h;exact .new (YC h2)
 |[],_::_,h=>by simp[HB]at h
 |_::_,[],h=>by simp[HB]at h
 |(some j,v,u)::os,.mp b::es,h=>by
  simp only[HB]at h;obtain⟨rfl,rfl,c,h2⟩:=h;split at c
  .rename_i a hm;obtain⟨rfl,c⟩:=c;exact .mp hm c (YC h2)
  simp_all
 |(some j,v,u)::os,.gone::es,h=>by simp[HB]at h
 |(none,S,u)::os,.mp _::es,h=>by simp[HB]at h
 |(none,S,u)::os,.gone::es,h=>by simp[HB]at h
theorem Tells.q(ρ:Yl) {s S:St}(hk:Hw ρ N=true) (a:(ρ.filterMap (·.1)).Nodup) (h:dz (Sq ρ s.m 9) s.t S.t/\HB ρ s.m ρ S.m):Tells N s S:=
 .one ρ hk ⟨Mt (Ts 9) h.1,YC h.2,a⟩
section
variable {ρ:Yl} {m:List Ent} {n:Nat} {d e:D} {a b c l r:List D} {x y:Value} {S S' i j u v k lo q s:Nat}
theorem J3{f:D->D->Prop}:dz f [] []=True:=paa rfl rfl
theorem KW{f:D->D->Prop}:dz f (d::l) (e::r)=(f d e/\dz f l r):=paa rfl rfl
theorem Og{f:D->D->Prop}(h:fa a=true):Rv f a a=True:=by simp[Rv,h]
theorem sqS_L{f:D->D->Prop}:Rv f (d::l) (e::r)=(((d::l=e::r)/\fa (d::l)=true)\/(f d e/\dz f l r)):=paa rfl rfl
theorem L3{f:D->D->Prop}:Rv f [] []=True:=by simp[Rv,fa]
theorem M3:Sq ρ m (n+1) d .dead=True:=paa rfl rfl
theorem sq_v:Sq ρ m (n+1) (.v x) (.v y)=(x=y):=paa rfl rfl
theorem sq_agg:Sq ρ m (n+1) (.agg a) (.agg b)=Rv (Sq ρ m n) a b:=paa rfl rfl
theorem sq_tup:Sq ρ m (n+1) (.tup a) (.tup b)=Rv (Sq ρ m n) a b:=paa rfl rfl
theorem Q3:Sq ρ m (n+1) (.v x) (.sl S b)=(x=.slice none 0 0/\b=[]):=paa rfl rfl
theorem sq_sl:Sq ρ m (n+1) (.sl S' a) (.sl S b)=(S'=S/\Rv (Sq ρ m n) a b):=paa rfl rfl
theorem P3:Sq ρ m (n+1) (.own j v) (.sl S b)=(match m[j]? with|some (.live S' c a)=>S'=S/\c=v/\bq ρ j=true/\Rv (Sq ρ m n) a b|_=>False):=paa rfl rfl
theorem MW:Sq ρ m (n+1) (.view j v lo k) (.sl S b)=(match m[j]? with|some (.live S' c a)=>S'=S/\c=v/\bq ρ j=true/\lo+k<=a.length/\Rv (Sq ρ m n) ((a.drop lo).take k) b|_=>False):=paa rfl rfl
theorem sq_own:Sq ρ m (n+1) (.own j v) (.own i u)=(ρ[i]?=some (some j,v,u)):=paa rfl rfl
theorem LW:Sq ρ m (n+1) (.v x) (.own i u)=(x=.slice none 0 0/\∃S,ρ[i]?=some (none,S,u)):=paa rfl rfl
theorem sq_ref:Sq ρ m (n+1) (.ref j v q s) (.ref i u k lo)=(ρ[i]?=some (some j,v,u)/\q=k/\s=lo):=paa rfl rfl
theorem R3{a b:Nat}:Sq ρ m (n+1) (.view j v a b) (.view i u lo k)=(ρ[i]?=some (some j,v,u)/\a=lo/\b=k):=paa rfl rfl
theorem sq_pt:Sq ρ m (n+1) (.pt d) (.pt e)=((d=e/\la d=true)\/Sq ρ m n d e):=paa rfl rfl
theorem O3:Sq ρ m (n+1) (.ref j v q s) (.pt e)=(match m[j]? with
 |some (.live _ b a)=>b=v/\s=0/\bq ρ j=true/\(match a[q]? with|some d'=>(d'=e/\la d'=true)\/Sq ρ m n d' e|none=>False)
 |_=>False):=paa rfl rfl
theorem sq_fn{f d:FuncId}{d':List D}:Sq ρ m (n+1) (.fn d a c) (.fn f b d')=(d=f/\Rv (Sq ρ m n) a b/\Rv (Sq ρ m n) c d'):=paa rfl rfl
theorem E8:HB ρ m [] []=True:=paa rfl rfl
theorem LY{os:Yl}{es:List Ent}{c:Nat}:HB ρ m ((some j,v,u)::os) (.live S c b::es)=(u=c/\(match m[j]? with|some (.live S' d a)=>S'=S/\d=v/\Rv (Sq ρ m 9) a b|_=>False)/\HB ρ m os es):=by simp only[HB]
theorem D8{os:Yl}{es:List Ent}{a:Nat}:HB ρ m ((none,S,u)::os) (.live S' a b::es)=(S=S'/\u=a/\b=[]/\HB ρ m os es):=by simp only[HB]
theorem sq_mp:Sq ρ m (n+1) (.mp j) (.mp i)=(ρ[i]?=some (some j,0,0)):=paa rfl rfl
theorem et_mp{os:Yl}{es:List Ent}{b:List (Value×D)}:HB ρ m ((some j,v,u)::os) (.mp b::es)=(v=0/\u=0/\(match m[j]? with|some (.mp a)=>a=b/\UY b=true|_=>False)/\HB ρ m os es):=by simp only[HB]
theorem VY:UY []=true:=paa rfl rfl
theorem DV:bq [] j=true:=paa rfl rfl
theorem rR{o:Option Nat×Nat×Nat}:bq (o::ρ) j=((match o.1 with|some k=>k !=j|none=>true)&&bq ρ j):=paa rfl rfl
end
theorem WB{m:List Ent}{d o:D}(h:Sq [] m 9 d o):Fin m d o:=Ts 9 d o [] [] h .nil
theorem sA{G:Gh}{w:World}{l r:List D}(h:Sbs [] [] l r):(∀us,VsRel G w l us->VsRel G w r us)/\(∀b S off,Qa G w b S l off->Qa G w b S r off):=by
 have both:∀{d e:D} {l r:List D},(∀u,VRel G w d u->VRel G w e u)->
  ((∀us,VsRel G w l us->VsRel G w r us)/\(∀b S off,Qa G w b S l off->Qa G w b S r off))->
  ((∀us,VsRel G w (d::l) us->VsRel G w (e::r) us)/\(∀b S off,Qa G w b S (d::l) off->Qa G w b S (e::r) off)):=by
  intro d e l r h1 h2;refine⟨λus hv=>?_,λb S off hv=>?_⟩
  .simp only[VsRel]at hv⊢
   grind
  .simp only[Qa]at hv⊢
   grind
 have first:∀{d e:D},(∀us,VsRel G w [d] us->VsRel G w [e] us)->∀u,VRel G w d u->VRel G w e u:=by
  intro d e h u hu;have:=h [u] (by simp only[VsRel];simp_all);simp only[VsRel]at this
  simp_all
 induction h with
 |nil=>simp
 |same hf h c=>exact both (λu hu=>hu) c
 |dead h c=>exact both (λu _=>by simp[VRel]) c
 |nils h c=>exact both (λu hu=>by simp only[VRel]at hu⊢;grind) c
 |agg ha h f c=>
  refine both (λu hu=>?_) c;simp only[VRel]at hu⊢
  grind
 |tup ha h f c=>
  refine both (λu hu=>?_) c;simp only[VRel]at hu⊢
  grind
 |sl ha h f c=>
  refine both (λu hu=>?_) c;simp only[VRel]at hu⊢;obtain⟨a,n,cap,rfl,hn,hc,g⟩:=hu;refine⟨a,n,cap,rfl,by rw[←ha.length];omega,hc,?_⟩;rcases g with rfl|⟨b,off,rfl,hF,hr⟩
  .exact .inl (Qaa ha.length.symm)
  grind
 |pt ha h f c=>
  refine both (λu hu=>?_) c;simp only[VRel]at hu⊢
  grind
 |fn ha hc h f ihc c=>
  refine both (λu hu=>?_) c;simp only[VRel]at hu⊢
  grind
 |ifc ha h f c=>
  refine both (λu hu=>?_) c;simp only[VRel]at hu⊢
  grind
 |mw i hi=>simp at hi
 |own hi=>simp at hi
 |ref hi=>simp at hi
 |view hi=>simp at hi
 |mp hi=>simp at hi
 |bf hm=>simp at hm
 |fview hm=>simp at hm
 |fref hm=>simp at hm
theorem XC{k:Nat}{ds ds':List D}{o:D}{m:List Ent}{f:D->List Ent->Prop}(h:Den P k ds' o) (hf:f o m) (a:dz (Sq [] [] 9) ds ds'):Je P k ds m f:=
 bc (m1:=m) (d1:=o) ⟨(h m).1,λG w vs hv hi=>(h m).2 G w vs ((sA (Mt (Ts 9) a)).1 vs hv) hi⟩ hf
theorem OD{k:Nat}{ds ds':List D}{o:D}{m:List Ent}{f:D->List Ent->Prop}(h:Den P k ds' o) (hf:f o m) (a:flat o=true) (b:dz (Sq [] m 9) ds ds'):Je P k ds m f:=
 Hy h (Mt (Ts 9) b) a hf
section
variable {K:Exit->St->Prop} {s:St} {l:List RI} {a b:C} {c:Operand} {t:Bool} {id q:Nat}
theorem T.rg(h:Zg P l (K .normal) s):Tm.T P N (.UI l) K s:=T.UI (ur h)
theorem T.cd(ht:s.ev c=.v (.bool t)) (h:gP (t=true) (Tm.T P N a K s) (Tm.T P N b K s)):Tm.T P N (.cond c a b) K s:=
 T.cond ht (λe=>h.1 e) (λe=>h.2 (by grind))
theorem T.bk(h:Tm.T P N a (KB id K) s):Tm.T P N (.block id a) K s:=T.block (h.mono λe s' b=>by cases e<;>exact b)
theorem T.sr(h:Zg P l (KS P N b K .normal) s):Tm.T P N (.seq (.UI l) b) K s:=T.Tj (T.rg h)
theorem gP.ite{p q Y N:Prop} [Decidable q] {α:Type}{A B:Option α}{r:α}(h:(if q then A else B)=some r) (a:p↔q) (d:q->A=some r->Y) (h2:¬q->B=some r->N):gP p Y N:=by
 by_cases c:q
 .rw[if_pos c]at h;exact⟨λ_=>d c h,λb=>(b (a.2 c)).elim⟩
 .rw[if_neg c]at h;exact⟨λb=>(c (a.1 b)).elim,λ_=>h2 c h⟩
end
def ds:Nat->List D->List D
 |0,l=>l
 |n+1,l=>.dead::ds n l
theorem uk{l:List D}:ds 0 l=l:=paa rfl rfl
theorem mj{n:Nat}{l:List D}:ds (n+1) l=.dead::ds n l:=paa rfl rfl
theorem rpS{α:Type}{a:α}:raa 1 a=[a]/\raa 2 a=[a,a]/\raa 3 a=[a,a,a]/\raa 55 a=[a,a,a,a,a,a,a,a,a,a,a,a,a,a,a,a,a,a,a,a,a,a,a,a,a,a,a,a,a,a,a,a,a,a,a,a,a,a,a,a,a,a,a,a,a,a,a,a,a,a,a,a,a,a,a]:=⟨rfl,rfl,rfl,rfl⟩
variable {P:Program} {N:Nat}
def Yz(ok:Bool) (z:D) (m:List Ent) (o:Option D):Option (D×List Ent):=
 match o with
 |some d=>some (if ok then .tup [d,.v (.bool true)]else d,m)
 |none=>some (if ok then .tup [z,.v (.bool false)]else z,m)
def wy{β:Type}:List (Int×β)->Int->Option β
 |[],_=>none
 |(q,x)::l,k=>if k=q then some x else wy l k
def CG{β:Type}(k:Int) (x:β):List (Int×β)->List (Int×β)
 |[]=>[(k,x)]
 |(q,y)::l=>if k=q then(k,x)::l else(q,y)::CG k x l
def em{β:Type}(e:β->D) (l:List (Int×β)):List (Value×D):=l.map λp=>(.int .i64 p.1,e p.2)
theorem MO{β:Type}{e:β->D}{k:Int}:∀{l:List (Int×β)},Bn (.int .i64 k) (em e l)=(wy l k).map e
 |[]=>paa rfl rfl
 |(q,x)::l=>by
  have a:=MO (e:=e) (k:=k) (l:=l);simp only[em]at a;simp only[em,Gaa,Bn,wo,wy,beq_iff_eq,a];split<;>rfl
theorem SI{β:Type}{e:β->D}{k:Int}{x:β}:∀{l:List (Int×β)},Xq (.int .i64 k) (e x) (em e l)=em e (CG k x l)
 |[]=>paa rfl rfl
 |(q,y)::l=>by
  have a:=SI (e:=e) (k:=k) (x:=x) (l:=l);simp only[em]at a;simp only[em,Gaa,Xq,wo,CG,beq_iff_eq,a];split<;>rfl
theorem z7{β:Type}{e:β->D}{l:List (Int×β)}:((em e l).all λq=>isKey 0 q.1)=true:=by
 simp[em,isKey]
theorem w8{β:Type}{e:β->D}:em e []=[]:=paa rfl rfl
theorem v8{β:Type}{e:β->D}{l:List (Int×β)}:(em e l).length=l.length:=by simp[em]
theorem AI{β:Type}{e:β->D} [Fr e] {l:List (Int×β)}:UY (em e l)=true:=by
 simp only[UY,em,List.all_map,Yaa];exact λx _=>Fr.h x.2
theorem vZ{k:Int}:isKey 0 (.int .i64 k)=true:=paa rfl rfl
def Bv(b:ByteArray) (i:Int):Option Int:=if h:0<=i/\i.toNat<b.size then some ((b[i.toNat]'h.2).toNat:Int)else none
def Js:Nat->List D->Bool
 |0,[]=>true
 |n+1,_::l=>Js n l
 |_,_=>false
theorem Yp:∀{n:Nat}{l:List D},Js n l=true↔l.length=n
 |0,[]=>by simp[Js]
 |n+1,_::l=>by simp[Js,Yp (n:=n) (l:=l)]
 |0,_::_=>by simp[Js]
 |_+1,[]=>by simp[Js]
def Fw:Nat->Nat->List D->Bool
 |0,0,_=>true
 |0,n+1,_::l=>Fw 0 n l
 |o+1,n,_::l=>Fw o n l
 |_,_,[]=>false
theorem Nq:∀{o n:Nat}{l:List D},Fw o n l=true↔o+n<=l.length
 |0,0,l=>by simp[Fw]
 |0,n+1,_::l=>by simp[Fw,Nq (o:=0) (n:=n) (l:=l)]
 |o+1,n,_::l=>by simp[Fw,Nq (o:=o) (n:=n) (l:=l)];omega
 |0,n+1,[]=>by simp[Fw]
 |o+1,n,[]=>by simp[Fw]
theorem li_nil:Js 0 []=true:=paa rfl rfl
theorem HZ{n:Nat}{d:D}{l:List D}:Js (n+1) (d::l)=Js n l:=paa rfl rfl
theorem h2_z{l:List D}:Fw 0 0 l=true:=by cases l<;>rfl
theorem h2_n{n:Nat}{d:D}{l:List D}:Fw 0 (n+1) (d::l)=Fw 0 n l:=paa rfl rfl
theorem h2_o{o n:Nat}{d:D}{l:List D}:Fw (o+1) n (d::l)=Fw o n l:=by cases n<;>rfl
theorem q_mv:type_of% @ea.eq_1:=by intros;exact paa rfl rfl
theorem q_pick:type_of% @ea.eq_2:=by intros;exact paa rfl rfl
theorem q_bin:type_of% @ea.eq_3:=by intros;exact paa rfl rfl
theorem q_beq:type_of% @ea.eq_4:=by intros;exact paa rfl rfl
theorem q_un:type_of% @ea.eq_5:=by intros;exact paa rfl rfl
theorem q_conv:type_of% @ea.eq_6:=by intros;exact paa rfl rfl
theorem M0:type_of% @ea.eq_7:=by intros;exact paa rfl rfl
theorem q_box{s:St}{S:Nat}{x:Operand}:ea s (.box S x)=if(s.ev x).ok=true/\Js S (s.ev x).cells=true then some (.ref s.m.length 0 0 0,s.m++[.live S 0 [s.ev x]])else none:=by simp only[Yp,Nq];rfl
theorem N0:type_of% @ea.eq_9:=by intros;exact paa rfl rfl
theorem LV:type_of% @ea.eq_10:=by intros;exact paa rfl rfl
theorem q_load{s:St}{A:Bool}{n:Nat}{x:Operand}:ea s (.load A n x) =
 match s.ev x with
 |.pt d=>
  match A,d with
  |true,.agg l=>if Js n l=true then some (d,s.m)else none
  |true,_=>none
  |false,.agg _=>none
  |false,d=>if d.ok=true then some (d,s.m)else none
 |.ref id Na idx sub=>
  match s.m[id]? with
  |some (.live _ a l)=>if a=Na then(l[idx]?).bind λd=>if d.ok=true then(part A n sub d.cells).map λr=>(r,s.m)else none else none
  |_=>none
 |_=>none:=by simp only[Yp,Nq];rfl
theorem A1{s:St}{n:Nat}{x:Operand}{y:Operand}:ea s (.store n x y) =
 match s.ev x with
 |.ref id Na idx sub=>
  match s.m[id]? with
  |some (.live S a l)=>
   if a=Na/\(s.ev y).ok=true/\Js n (s.ev y).cells=true then
    (l[idx]?).bind λd=>if d.ok=true/\0<n/\Fw sub n d.cells=true then some (.dead,s.m.set id (.live S a (l.set idx (d.Cf sub (s.ev y).cells))))else none
   else none
  |_=>none
 |_=>none:=by simp only[Yp,Nq];rfl
theorem q_nilc:type_of% @ea.eq_13:=by intros;exact paa rfl rfl
theorem Z0:type_of% @ea.eq_14:=by intros;exact paa rfl rfl
theorem O0:type_of% @ea.eq_15:=by intros;exact paa rfl rfl
theorem P0:type_of% @ea.eq_16:=by intros;exact paa rfl rfl
theorem Q0:type_of% @ea.eq_17:=by intros;exact paa rfl rfl
theorem L0:type_of% @ea.eq_18:=by intros;exact paa rfl rfl
theorem S0:type_of% @ea.eq_19:=by intros;exact paa rfl rfl
theorem wR:type_of% @ea.eq_20:=by intros;exact paa rfl rfl
theorem q_len:type_of% @ea.eq_21:=by intros;exact paa rfl rfl
theorem q_slen:type_of% @ea.eq_22:=by intros;exact paa rfl rfl
theorem KV:type_of% @ea.eq_23:=by intros;exact paa rfl rfl
theorem xR:type_of% @ea.eq_24:=by intros;exact paa rfl rfl
theorem MV:type_of% @ea.eq_25:=by intros;exact paa rfl rfl
theorem q_fail:type_of% @ea.eq_26:=by intros;exact paa rfl rfl
theorem q_mm:type_of% @ea.eq_27:=by intros;exact paa rfl rfl
theorem q_ceq:type_of% @ea.eq_28:=by intros;exact paa rfl rfl
theorem q_strb:type_of% @ea.eq_29:=by intros;exact paa rfl rfl
theorem q_sidx{s:St}{x i:Operand}:ea s (.Bv x i)=(match s.ev x,s.ev i with
 |.v (.string b),.v (.int _ k)=>(Bv b k).map λn=>(D.v (.int .u8 n),s.m)
 |_,_=>none):=by
 simp only[ea];generalize s.ev x=a;generalize s.ev i=c;split
 .rename_i b k' k;by_cases h:0<=k/\k.toNat<b.size<;>simp[Bv,h]
 .rename_i hx;split
  .exact(hx _ _ _ rfl rfl).elim
  .rfl
theorem NV:type_of% @ea.eq_31:=by intros;exact paa rfl rfl
theorem V0:type_of% @ea.eq_32:=by intros;exact paa rfl rfl
theorem X0{s:St}{K:Nat}{ok:Bool}{z:D}{x:Operand}{k:Operand}:ea s (.mlook K ok z x k) =
 match s.ev k with
 |.v a=>
  if isKey K a=true then
   match s.ev x with
   |.v (.map none)=>some (if ok then .tup [z,.v (.bool false)]else z,s.m)
   |.mp id=>
    match s.m[id]? with
    |some (.mp es)=>
     if(es.all λe=>isKey K e.1)=true then
      Yz ok z s.m (Bn a es)
     else none
    |_=>none
   |_=>none
  else none
 |_=>none:=by
 simp only[ea,Yz];rfl
theorem q_mput:type_of% @ea.eq_34:=by intros;exact paa rfl rfl
theorem q_mlen:type_of% @ea.eq_35:=by intros;exact paa rfl rfl
theorem B1:type_of% @ea.eq_36:=by intros;exact paa rfl rfl
theorem U0:type_of% @ea.eq_37:=by intros;exact paa rfl rfl
theorem yR:type_of% @ea.eq_38:=by intros;exact paa rfl rfl
theorem q_clr:type_of% @ea.eq_39:=by intros;exact paa rfl rfl
theorem q_capn:type_of% @ea.eq_40:=by intros;exact paa rfl rfl
theorem Y0:type_of% @ea.eq_41:=by intros;exact paa rfl rfl
theorem T0:type_of% @ea.eq_42:=by intros;exact paa rfl rfl
def gQ(p:Prop) (a:St->Prop) (s1:St) (b:St->Prop) (s2:St):Prop:=gP p (a s1) (b s2)
theorem gQ_T{a b:St->Prop}{s1 s2:St}:gQ True a s1 b s2=a s1:=gP_T
theorem gQ_F{b a:St->Prop}{s1 s2:St}:gQ False b s1 a s2=a s2:=gP_F
def gD(d:D) (b:Bool) (e:St->Prop) (s1:St) (a:St->Prop) (s2 s0:St):Prop:=
 match d with
 |.v (.bool c)=>gQ (c=b) e s1 a s2
 |.v _=>a s0
 |_=>False
theorem WY{c b:Bool}{a d:St->Prop}{s1 s2 s0:St}:gD (.v (.bool c)) b a s1 d s2 s0=gQ (c=b) a s1 d s2:=paa rfl rfl
theorem XY{b:Bool}{c a:St->Prop}{s1 s2 s0:St}:gD (.v (.tuple #[])) b c s1 a s2 s0=a s0:=paa rfl rfl
theorem wU{b:Bool}{c a:St->Prop}{s1 s2 s0:St}:gD (.v undef) b c s1 a s2 s0=a s0:=paa rfl rfl
section
variable {t:List D} {m:List Ent} {i:Nat} {b:Bool} {dst:Option Tmp} {l:List RI} {K:St->Prop} {ins:I} {k q:Nat} {args:List Operand}
theorem JS:Zg P (.op dst (some (i,b)) ins::l) K ⟨t,m⟩=gD (t.getD i .dead) b (Zg P (.op dst none ins::l) K) ⟨t.set i (.v (.bool b)),m⟩ (Zg P l K) (St.put ⟨t.set i (.v (.bool (!b))),m⟩ dst (.v undef)) (St.put ⟨t,m⟩ dst (.v undef)):=by
 rw[LS];simp only[gate,gD,gQ,dw,XN]
 cases h:t.getD i .dead with
 |v x=>cases x<;>simp[gP]<;>cases b<;>simp
 |_=>rfl
theorem OL:Zg P (.call dst (some (i,b)) (.func k) args::l) K ⟨t,m⟩=gD (t.getD i .dead) b (Zg P (.call dst none (.func k) args::l) K) ⟨t.set i (.v (.bool b)),m⟩ (Zg P l K) (St.put ⟨t.set i (.v (.bool (!b))),m⟩ dst (.v undef)) (St.put ⟨t,m⟩ dst (.v undef)):=by
 rw[sJ];simp only[gate,gD,gQ,dw,BD]
 cases h:t.getD i .dead with
 |v x=>cases x<;>simp[gP]<;>cases b<;>simp
 |_=>rfl
theorem xU{t:List D}{i:Nat}{b c:Bool}(h:t.getD i .dead=.v (.bool c)) {Y N:List D->Prop}:gP (c=b) (Y t) (N t)=gP (c=b) (Y (t.set i (.v (.bool b)))) (N (t.set i (.v (.bool (!b))))):=by
 have a:=uA h (by simp);by_cases hc:c=b
 .subst hc;rw[a];simp[gP]
 .have:(!b)=c:=by cases b<;>cases c<;>simp_all
  rw[this,a];simp[gP,hc]
theorem PL:Zg P (.call dst none (.tmp i) args::l) K ⟨t,m⟩=(match t.getD i .dead with|.fn k first caps=>Je P k (first++args.map (St.ev ⟨t,m⟩)++caps) m (KO (Zg P l K) ⟨t,m⟩ dst)|_=>False):=by
 simp only[Zg,gate,St.ec,St.ev]
 first|done|(cases t.getD i .dead<;>rfl)
theorem LX:Xu P (q+1) (.op dst (some (i,b)) ins::l) K ⟨t,m⟩=gD (t.getD i .dead) b (Xu P (q+1) (.op dst none ins::l) K) ⟨t.set i (.v (.bool b)),m⟩ (Xu P q l K) (St.put ⟨t.set i (.v (.bool (!b))),m⟩ dst (.v undef)) (St.put ⟨t,m⟩ dst (.v undef)):=by
 rw[MX];simp only[gate,gD,gQ,vS]
 cases h:t.getD i .dead with
 |v x=>
  cases x with
  |bool c=>exact xU h (Y:=λt=>Ko (ea ⟨t,m⟩ ins) (KO (Xu P q l K) ⟨t,m⟩ dst)) (N:=λt=>Xu P q l K (St.put ⟨t,m⟩ dst (.v undef)))
  |_=>cases b<;>simp[gP]
 |_=>rfl
theorem GP:Xu P (q+1) (.call dst (some (i,b)) (.func k) args::l) K ⟨t,m⟩=gD (t.getD i .dead) b (Xu P (q+1) (.call dst none (.func k) args::l) K) ⟨t.set i (.v (.bool b)),m⟩ (Xu P q l K) (St.put ⟨t.set i (.v (.bool (!b))),m⟩ dst (.v undef)) (St.put ⟨t,m⟩ dst (.v undef)):=by
 rw[NL];simp only[gate,gD,gQ,JG]
 cases h:t.getD i .dead with
 |v x=>
  cases x with
  |bool c=>exact xU h (Y:=λt=>QG P k (args.map (St.ev ⟨t,m⟩)) (Xu P q l K) ⟨t,m⟩ dst) (N:=λt=>Xu P q l K (St.put ⟨t,m⟩ dst (.v undef)))
  |_=>cases b<;>simp[gP]
 |_=>rfl
end
section
variable {t:List D} {m m':List Ent} {i:Nat} {x:Value} {f:FuncId} {g:Nat} {b c:Bool} {d d':D} {k n:Nat} {R:St->Prop} {o:Operand} {s:St}
theorem st_tmp:St.ev ⟨t,m⟩ (.tmp i)=t.getD i .dead:=paa rfl rfl
theorem NW:St.ev s (.const x)=.v x:=paa rfl rfl
theorem U3:St.ev s (.func f)=.fn f [] []:=paa rfl rfl
theorem vR:St.put ⟨t,m⟩ (some i) d=⟨t.set i d,m⟩:=paa rfl rfl
theorem uR:St.put s none d=s:=paa rfl rfl
theorem QX:KO R ⟨t,m⟩ (some i) d m'=R ⟨t.set i d,m'⟩:=paa rfl rfl
theorem PX:KO R ⟨t,m⟩ none d m'=R ⟨t,m'⟩:=paa rfl rfl
theorem UQ:gate ⟨t,m⟩ (some (i,b))=(match t.getD i .dead with|.v (.bool c)=>some (some (c,b))|.v _=>some (some (!b,b))|_=>none):=paa rfl rfl
theorem GV:dw ⟨t,m⟩ (some (i,b)) c=(match t.getD i .dead with|.v (.bool _)=>⟨t.set i (.v (.bool c)),m⟩|_=>⟨t,m⟩):=paa rfl rfl
theorem fQ{l:List D}:D.cells (.agg l)=l:=paa rfl rfl
theorem sY:D.cells (.v x)=[.v x]:=paa rfl rfl
theorem pT{l:List D}:D.cells (.sl n l)=[.sl n l]:=paa rfl rfl
theorem PA:D.cells (.own i k)=[.own i k]:=paa rfl rfl
theorem ZL{a b:Nat}:D.cells (.view i k a b)=[.view i k a b]:=paa rfl rfl
theorem iQ{a b:Nat}:D.cells (.ref i k a b)=[.ref i k a b]:=paa rfl rfl
theorem oT:D.cells (.pt d)=[.pt d]:=paa rfl rfl
theorem lT{a b:List D}:D.cells (.fn f a b)=[.fn f a b]:=paa rfl rfl
theorem mT:D.cells (.mp i)=[.mp i]:=paa rfl rfl
theorem ok_agg{l:List D}:D.ok (.agg l)=true:=paa rfl rfl
theorem ok_v:D.ok (.v x)=one x:=paa rfl rfl
theorem ok_sl{l:List D}:D.ok (.sl n l)=true:=paa rfl rfl
theorem ok_own:D.ok (.own i k)=true:=paa rfl rfl
theorem A0{a b:Nat}:D.ok (.view i k a b)=true:=paa rfl rfl
theorem ok_ref{a b:Nat}:D.ok (.ref i k a b)=true:=paa rfl rfl
theorem ok_pt:D.ok (.pt d)=true:=paa rfl rfl
theorem ok_fn{a b:List D}:D.ok (.fn f a b)=true:=paa rfl rfl
theorem ok_mp:D.ok (.mp i)=true:=paa rfl rfl
theorem C0{j:IntKind}{z:Int}:one (.int j z)=true:=paa rfl rfl
theorem BV:one (.bool b)=true:=paa rfl rfl
theorem F0{z:ByteArray}:one (.string z)=true:=paa rfl rfl
theorem one_sl{a b}:one (.slice none a b)=true:=paa rfl rfl
theorem D0:one (.map none)=true:=paa rfl rfl
theorem E0:one (.pointer none)=true:=paa rfl rfl
theorem len_nil:Dc m (.v (.slice none 0 0))=some 0:=paa rfl rfl
theorem len_sl{l:List D}:Dc m (.sl n l)=some l.length:=paa rfl rfl
theorem GZ:Dc m (.own i k)=(match m[i]? with|some (.live _ a l)=>if a=k then some l.length else none|_=>none):=paa rfl rfl
theorem YU{a b:Nat}:Dc m (.view i k a b)=(match m[i]? with|some _=>some b|none=>none):=paa rfl rfl
theorem vY:contents n m (.v (.slice none 0 0))=some []:=paa rfl rfl
theorem V7{l:List D}:contents n m (.sl k l)=(if k=n then some l else none):=paa rfl rfl
theorem wY:contents n m (.own i k)=(match m[i]? with|some (.live S' a l)=>if S'=n/\a=k then some l else none|_=>none):=paa rfl rfl
theorem AT{a b:Nat}:contents n m (.view i k a b)=(match m[i]? with|some (.live S' c l)=>if S'=n/\c=k/\a+b<=l.length then some ((l.drop a).take b)else none|_=>none):=paa rfl rfl
theorem part_t{l:List D}{off:Nat}:part true n off l=(if Fw off n l=true then some (.agg ((l.drop off).take n))else none):=by simp only[Nq];rfl
theorem part_f{l:List D}{off:Nat}:part false n off l=l[off]?:=paa rfl rfl
theorem T4{l r:List D}{a:Nat}:D.Cf (.agg l) a r=.agg (mo l a r):=paa rfl rfl
theorem upd_v{r:List D}{a:Nat}:D.Cf (.v x) a r=r.headD .dead:=paa rfl rfl
theorem upd_sl{l r:List D}{a:Nat}:D.Cf (.sl n l) a r=r.headD .dead:=paa rfl rfl
theorem U4{r:List D}{a:Nat}:D.Cf (.own i k) a r=r.headD .dead:=paa rfl rfl
theorem upd_pt{r:List D}{a:Nat}:D.Cf (.pt d) a r=r.headD .dead:=paa rfl rfl
theorem V4{r:List D}{a b c:Nat}:D.Cf (.ref i k b c) a r=r.headD .dead:=paa rfl rfl
theorem head_cons{r:List D}{e:D}:(d::r).headD e=d:=paa rfl rfl
theorem IW{l r:List D}:mo (d::l) 0 (d'::r)=d'::mo l 0 r:=by simp[mo]
theorem JW{l r:List D}:mo (d::l) (n+1) r=d::mo l n r:=by simp[mo,Nat.add_right_comm]
theorem IN{l:List D}:mo l 0 []=l:=by simp[mo]
theorem cQ{l:List D}:kr s [] l=some l:=paa rfl rfl
theorem WL{l:List D}{off:Nat}{ps:List (Nat×Nat×Operand)}:kr s ((off,n,o)::ps) l=(if(s.ev o).ok=true/\Js n (s.ev o).cells=true/\Fw off n l=true then kr s ps (mo l off (s.ev o).cells)else none):=by simp only[Yp,Nq];rfl
theorem oY{l:List D}:wc s n [] l=some l:=paa rfl rfl
theorem YS{l:List D}{ps:List (Nat×Operand)}:wc s n ((i,o)::ps) l=(if(s.ev o).ok=true/\Js n (s.ev o).cells=true/\Fw i 1 l=true then wc s n ps (l.set i (s.ev o))else none):=by simp only[Yp,Nq];rfl
theorem WS:bound s n none=some n:=paa rfl rfl
theorem XS:bound s n (some o)=(match s.ev o with|.v (.int _ n)=>if 0<=n then some n.toNat else none|_=>none):=paa rfl rfl
theorem F3{lo hi:Nat}:yr n m (.v (.slice none 0 0)) lo hi=(if lo=0/\hi=0 then some (.v (.slice none 0 0))else none):=paa rfl rfl
theorem sli_sl{lo hi:Nat}{l:List D}:yr n m (.sl k l) lo hi=(if k=n/\lo<=hi/\hi<=l.length then some (.sl n ((l.drop lo).take (hi-lo)))else none):=paa rfl rfl
theorem G3{lo hi:Nat}:yr n m (.own i k) lo hi=(match m[i]? with|some (.live S' a l)=>if S'=n/\a=k/\lo<=hi/\hi<=l.length then some (.view i k lo (hi-lo))else none|_=>none):=paa rfl rfl
theorem HW{lo hi a b:Nat}:yr n m (.view i k a b) lo hi=(match m[i]? with|some (.live S' c l)=>if S'=n/\c=k/\lo<=hi/\hi<=b/\a+b<=l.length then some (.view i k (a+lo) (hi-lo))else none|_=>none):=paa rfl rfl
theorem JZ:leaves []=some []:=paa rfl rfl
theorem gV{l:List D}:leaves (.v x::l)=(leaves l).map (x::·):=paa rfl rfl
theorem GY{j k:IntKind}{a b:Int}:lr 0 (.v (.int j a)) (.v (.int k b))=(if j=k then some (a==b)else none):=paa rfl rfl
theorem qU{a b:Bool}:lr 1 (.v (.bool a)) (.v (.bool b))=some (a==b):=paa rfl rfl
theorem Gy{a b:ByteArray}:(a.toList==b.toList)=decide (a=b):=by
 by_cases h:a=b
 .subst h;simp
 .rw[decide_eq_false h,beq_eq_false_iff_ne];exact λhe=>h (by cases a;cases b;simp only[ByteArray.toList_eq]at he;simpa using he)
theorem HY{a b:ByteArray}:lr 2 (.v (.string a)) (.v (.string b))=some (decide (a=b)):=by
 rw[←Gy];rfl
theorem str_eq{a b:ByteArray}:qg (binOp .eql 0 (.string a) (.string b))=some (.bool (decide (a=b))):=by
 rw[←Gy];rfl
theorem str_ne{a b:ByteArray}:qg (binOp .neq 0 (.string a) (.string b))=some (.bool (!decide (a=b))):=by
 rw[←Gy];rfl
theorem IY:sd [] [] []=some true:=paa rfl rfl
theorem rU{ks:List Nat}{xs ys:List D}{e:D}:sd (k::ks) (d::xs) (e::ys)=(match lr k d e,sd ks xs ys with|some a,some b=>some (a&&b)|_,_=>none):=paa rfl rfl
section
variable {j:IntKind} {a b:Int}
theorem G7:vg .add j a j b=some (.int j (ca j (a+b))):=by simp[vg]
theorem Q7:vg .sub j a j b=some (.int j (ca j (a-b))):=by simp[vg]
theorem M7:vg .mul j a j b=some (.int j (ca j (a*b))):=by simp[vg]
theorem H7:vg .eql j a j b=some (.bool (a==b)):=by simp[vg]
theorem N7:vg .neq j a j b=some (.bool (a !=b)):=by simp[vg]
theorem L7:vg .lss j a j b=some (.bool (decide (a<b))):=by simp[vg]
theorem K7:vg .leq j a j b=some (.bool (decide (a<=b))):=by simp[vg]
theorem J7:vg .gtr j a j b=some (.bool (decide (b<a))):=by simp[vg]
theorem I7:vg .geq j a j b=some (.bool (decide (b<=a))):=by simp[vg]
theorem O7:vg .quo j a j b=if b=0 then none else some (.int j (ca j (a.tdiv b))):=by
 by_cases h:b=0<;>simp[vg,h]
theorem P7:vg .rem j a j b=if b=0 then none else some (.int j (a.tmod b)):=by
 by_cases h:b=0<;>simp[vg,h]
end
theorem bne_F{b:Bool}:(b !=false)=b:=by cases b<;>rfl
theorem bne_T{b:Bool}:(b !=true) = !b:=by cases b<;>rfl
theorem not_F{b:Bool}:((!b)=false)=(b=true):=by cases b<;>simp
theorem not_T{b:Bool}:((!b)=true)=(b=false):=by cases b<;>simp
theorem Af:Eb s []=some []:=paa rfl rfl
theorem Bf{l:List RV}:Eb ⟨t,m⟩ (.tmp i::l)=(match Eb ⟨t,m⟩ l with|some ds=>some (t.getD i .dead::ds)|none=>none):=by
 simp only[Eb,ft];cases Eb ⟨t,m⟩ l<;>rfl
theorem Sd{l:List RV}:Eb ⟨t,m⟩ (.cell b n i::l)=(match ea ⟨t,m⟩ (.load b n (.tmp i)),Eb ⟨t,m⟩ l with|some (d,_),some ds=>some (d::ds)|_,_=>none):=by
 simp only[Eb,ft];cases ea ⟨t,m⟩ (.load b n (.tmp i))<;>cases Eb ⟨t,m⟩ l<;>rfl
end
def zx:=(And.intro (And.intro (And.intro (And.intro (And.intro (And.intro (And.intro (And.intro (And.intro @w5 @U6) (And.intro @W6 @V6)) (And.intro (And.intro @KG @OX) (And.intro @T6 @q_mv))) (And.intro (And.intro (And.intro @q_pick @q_bin) (And.intro @q_beq @q_un)) (And.intro (And.intro @q_conv @M0) (And.intro @q_box @N0)))) (And.intro (And.intro (And.intro (And.intro @LV @q_load) (And.intro @A1 @q_nilc)) (And.intro (And.intro @Z0 @O0) (And.intro @P0 @Q0))) (And.intro (And.intro (And.intro @L0 @S0) (And.intro @wR @q_len)) (And.intro (And.intro @q_slen @KV) (And.intro @xR @MV))))) (And.intro (And.intro (And.intro (And.intro (And.intro @q_fail @q_mm) (And.intro @q_ceq @q_strb)) (And.intro (And.intro @q_sidx @NV) (And.intro @V0 @X0))) (And.intro (And.intro (And.intro @q_mput @q_mlen) (And.intro @B1 @U0)) (And.intro (And.intro @yR @q_clr) (And.intro @q_capn @Y0)))) (And.intro (And.intro (And.intro (And.intro @T0 @gQ_T) (And.intro @gQ_F @WY)) (And.intro (And.intro @XY @wU) (And.intro @JS @OL))) (And.intro (And.intro (And.intro @PL @LX) (And.intro @GP @st_tmp)) (And.intro (And.intro @NW @U3) (And.intro @vR @uR)))))) (And.intro (And.intro (And.intro (And.intro (And.intro (And.intro @QX @PX) (And.intro @UQ @GV)) (And.intro (And.intro @fQ @sY) (And.intro @pT @PA))) (And.intro (And.intro (And.intro @ZL @iQ) (And.intro @oT @lT)) (And.intro (And.intro @mT @ok_agg) (And.intro @ok_v @ok_sl)))) (And.intro (And.intro (And.intro (And.intro @ok_own @A0) (And.intro @ok_ref @ok_pt)) (And.intro (And.intro @ok_fn @ok_mp) (And.intro @C0 @BV))) (And.intro (And.intro (And.intro @F0 @one_sl) (And.intro @D0 @E0)) (And.intro (And.intro @len_nil @len_sl) (And.intro @GZ @YU))))) (And.intro (And.intro (And.intro (And.intro (And.intro @vY @V7) (And.intro @wY @AT)) (And.intro (And.intro @part_t @part_f) (And.intro @T4 @upd_v))) (And.intro (And.intro (And.intro @upd_sl @U4) (And.intro @upd_pt @V4)) (And.intro (And.intro @head_cons @IW) (And.intro @JW @IN)))) (And.intro (And.intro (And.intro (And.intro @cQ @WL) (And.intro @oY @YS)) (And.intro (And.intro @WS @XS) (And.intro @F3 @sli_sl))) (And.intro (And.intro (And.intro @G3 @HW) (And.intro @JZ @gV)) (And.intro (And.intro @GY @qU) (And.intro @HY @str_eq))))))) (And.intro (And.intro (And.intro (And.intro (And.intro (And.intro (And.intro @str_ne @IY) (And.intro @rU @G7)) (And.intro (And.intro @Q7 @M7) (And.intro @H7 @N7))) (And.intro (And.intro (And.intro @L7 @K7) (And.intro @J7 @I7)) (And.intro (And.intro @O7 @P7) (And.intro @bne_F @bne_T)))) (And.intro (And.intro (And.intro (And.intro @not_F @not_T) (And.intro @Af @Bf)) (And.intro (And.intro @Sd @Zaa.{0}) (And.intro @Dab.{0} @VZ))) (And.intro (And.intro (And.intro @NZ @QZ) (And.intro @false_and @and_false)) (And.intro (And.intro @true_or @or_true) (And.intro @or_self @false_or))))) (And.intro (And.intro (And.intro (And.intro (And.intro @or_false @kT) (And.intro @eq_self.{1} @ep)) (And.intro (And.intro @gP_T @gP_F) (And.intro @bne_self_eq_false.{0} @bne_iff_ne.{0}))) (And.intro (And.intro (And.intro @bne_eq_false_iff_eq.{0} @Bool.false_eq_true) (And.intro @Bool.true_eq_false @false_implies)) (And.intro (And.intro @true_implies @implies_true.{1}) (And.intro @not_true_eq_false @not_false_eq_true)))) (And.intro (And.intro (And.intro (And.intro @beq_self_eq_true.{0} @IS) (And.intro @XN @BD)) (And.intro (And.intro @wS @vS) (And.intro @JG @JP))) (And.intro (And.intro (And.intro @RX @X6) (And.intro @IP @NX)) (And.intro (And.intro @S6 @TS) (And.intro @MZ @Option.bind_some.{0,0})))))) (And.intro (And.intro (And.intro (And.intro (And.intro (And.intro @Nat.mul_one @Int.toNat_natCast) (And.intro @Int.natCast_nonneg @sX)) (And.intro (And.intro @tX @rX) (And.intro @Nat.lt_add_one @vae))) (And.intro (And.intro (And.intro @true_and @and_true) (And.intro @and_self @Bool.or_false)) (And.intro (And.intro @Bool.false_or @Bool.or_true) (And.intro @Bool.true_or @Bool.or_self)))) (And.intro (And.intro (And.intro (And.intro @OP @List.getD_cons_succ.{0}) (And.intro @List.getD_cons_zero.{0} @Iaa.{0})) (And.intro (And.intro @Vaa.{0} @uaa.{0}) (And.intro @Faa.{0} @List.set_cons_succ.{0}))) (And.intro (And.intro (And.intro @List.set_cons_zero.{0} @Gaa.{0,0}) (And.intro @xab.{0,0} @uac.{0,0})) (And.intro (And.intro @Option.map_none.{0,0} @F7) (And.intro @decide_true @cond_true.{1}))))) (And.intro (And.intro (And.intro (And.intro (And.intro @cond_false.{1} @if_true.{1}) (And.intro @if_false.{1} @decide_eq_true_eq)) (And.intro (And.intro @decide_eq_false_iff_not @xac) (And.intro @Jaa @Nat.succ_ne_self))) (And.intro (And.intro (And.intro @Bool.not_true @Bool.not_false) (And.intro @l5 @decide_false)) (And.intro (And.intro @beq_iff_eq.{0} @beq_eq_false_iff_ne.{0}) (And.intro @ne_eq.{1} @Fab)))) (And.intro (And.intro (And.intro (And.intro @Nat.add_zero @lab.{0,0}) (And.intro @Haa @ite_true.{1})) (And.intro (And.intro @ite_false.{1} @Xaa.{0}) (And.intro @List.drop_succ_cons.{0} @Yac.{0}))) (And.intro (And.intro (And.intro @List.take_succ_cons.{0} @List.take_zero.{0}) (And.intro @List.getElem?_map.{0,0} @List.length_append.{0})) (And.intro (And.intro @sab @vad) (And.intro @rpS @fad.{0})))))))) (And.intro (And.intro (And.intro (And.intro @uac.{0,0} @li_nil) (And.intro @HZ @h2_z)) (And.intro (And.intro @h2_n @h2_o) (And.intro @Caa @uk))) (And.intro (And.intro (And.intro @mj @gn) (And.intro @MO @z7)) (And.intro @vZ @v8))))
theorem K3{α:Type}{e:α->D} [Fr e] {f:D->D->Prop}{l:List α}:Rv f (l.map e) (l.map e)=True:=Og (Fr.l l)
theorem nz_S{x:Nat}:(0=x+1)=False:=by simp
theorem nS_z{x:Nat}:(x+1=0)=False:=by simp
theorem nS_S{x y:Nat}:(x+1=y+1)=(x=y):=by simp
def zq:=(And.intro (And.intro (And.intro (And.intro (And.intro (And.intro @nz_S @nS_z) (And.intro @nS_S @K3)) (And.intro (And.intro @J3 @KW) (And.intro @sqS_L @L3))) (And.intro (And.intro (And.intro @M3 @sq_v) (And.intro @sq_agg @sq_tup)) (And.intro (And.intro @Q3 @sq_sl) (And.intro @P3 @MW)))) (And.intro (And.intro (And.intro (And.intro @sq_own @LW) (And.intro @sq_ref @R3)) (And.intro (And.intro @sq_pt @O3) (And.intro @sq_fn @E8))) (And.intro (And.intro (And.intro @LY @D8) (And.intro @DV @rR)) (And.intro (And.intro @uk @mj) (And.intro @sq_mp @et_mp))))) (And.intro (And.intro (And.intro (And.intro (And.intro @VY @AI) (And.intro @w8 @rpS)) (And.intro (And.intro @fad.{0} @and_self) (And.intro @and_true @true_and))) (And.intro (And.intro (And.intro @or_true @true_or) (And.intro @eq_self.{1} @Zaa.{0})) (And.intro (And.intro @Dab.{0} @aab.{0}) (And.intro @Paa.{0,0} @xab.{0,0})))) (And.intro (And.intro (And.intro (And.intro @Gaa.{0,0} @List.map_append.{0,0}) (And.intro @Vaa.{0} @exists_eq'.{1})) (And.intro (And.intro @Jaa @xac) (And.intro @bne_iff_ne.{0} @ne_eq.{1}))) (And.intro @not_false_eq_true @Caa))))
def zs:=(And.intro (And.intro (And.intro @Iaa.{0} @Vaa.{0}) (And.intro @uaa.{0} @Faa.{0})) (And.intro (And.intro @Fab @uk) @mj))
variable {P:Program} {N:Nat}
class StbC (N:Nat) (K:Exit->St->Prop):Prop where
 h:C5 N K
instance {b:C}{K:Exit->St->Prop}:StbC N (KS P N b K):=⟨stb_S⟩
instance {id:Nat}{K:Exit->St->Prop} [h:StbC N K]:StbC N (KB id K):=⟨stb_B h.h⟩
instance {σ β ρ:Type}{id:Nat}{K:Exit->St->Prop}{S:σ->St}{B:β->St}{z:Ex σ β ρ}:StbC N (KL N id K S B z):=⟨stb_L⟩
instance {X R:Type}{K:Exit->St->Prop}{S:X->St}{z:X⊕R}:StbC N (KJ N K S z):=⟨stb_J⟩
instance {rs:List RV}{o:D}:StbC 0 (jG rs o):=⟨stb_F⟩
theorem T.cV{σ β ρ:Type}{id:Nat}{K:Exit->St->Prop} [c:StbC N K] {x:C}{s:St}(S:σ->St) (B:β->St) (step:σ->Option (Ex σ β ρ)) (x0:σ) {y:β⊕ρ}(e:Tm.ja step x0=some y) (d:Tells N s (S x0))
 (round:∀a z,step a=some z->(∀v,z=.ret v->y=.inr v)->Tm.T P N x (KL N id K S B z) (S a))
 (rest:∀b,y=.inl b->K .normal (B b)):Tm.T P N (.block id (.loop x)) K s:=T.ja S B step x0 e d c.h round rest
theorem FA:fa []=true:=rfl
theorem DC{α:Type}{e:α->D} [Fr e] {x:α}{l:List D}(h:fa l=true):fa (e x::l)=true:=by
 simp_all[fa,Fr.h]
theorem QQ{k:FuncId}{q l:List D}(hc:fa q=true) (h:fa l=true):fa (.fn k [] q::l)=true:=by
 grind[fa,la]
theorem iT{k:Nat}{d d':D}{q:List D}{o:D}{m:List Ent}{f:D->List Ent->Prop}(h:Den P k ([d']++q) o) (hq:fa q=true) (hf:f o m) (a:Sq [] [] 9 d d'):Je P k (d::q) m f:=
 bc (m1:=m) (d1:=o) ⟨(h m).1,λG w vs hv hi=>(h m).2 G w vs ((sA (Ts 9 d d' q q a (Sbs.free hq))).1 vs hv) hi⟩ hf
theorem N6{rs:List RV}{o:D}{s:St}(h:YJ (Eb s rs) s.m o):jG rs o .normal s:=by
 obtain⟨ds,a,h2⟩:=h;exact⟨s,.refl s,ds,a,h2⟩
def Tr{α:Type}(l:List α) (hi:Int):Option (List α):=if 0<=hi/\hi.toNat<=l.length then some (l.take hi.toNat)else none
def Zy{α:Type}(l:List α) (lo:Int):Option (List α):=if 0<=lo/\lo.toNat<=l.length then some (l.drop lo.toNat)else none
section
variable {α:Type} {e:α->D} {l r x:List α} {i:Int} {y:α} {b:Nat}
theorem idx_f(h:idx l i=some y):0<=i/\l[i.toNat]?=some y:=Gw h
theorem idx_o(h:idx l i=some y):0<=i/\l[i.toNat]?=some y/\i.toNat<l.length:=by
 obtain⟨h1,h2⟩:=Gw h
 grind
theorem Gv(h:app b l r=some x):(l.length+r.length)*b<=2 ^ 47/\l.map e++r.map e=x.map e:=by
 obtain⟨h1,rfl⟩:=US h
 simp_all
theorem IV(h:put l i y=some x):i.toNat<l.length/\(l.map e).set i.toNat (e y)=x.map e:=by
 obtain⟨h0,h1,rfl⟩:=JV h
 simp_all
theorem CK{n c:Int}(h:Nw b y n c=some x):0<=n/\n<=c/\c<=2 ^ 62/\c.toNat*b<=2 ^ 48/\raa n.toNat (e y)=x.map e:=by
 obtain⟨h0,h1,h2,h3,rfl⟩:=qV h
 simp_all
theorem KN(h:Tr l i=some x):0<=i/\i.toNat<=l.length/\((l.map e).drop 0).take (i.toNat-0)=x.map e:=by
 unfold Tr at h;split at h
 .rename_i hc;obtain rfl:=Raa h
  simp_all
 .cases h
theorem Q4(h:Tr l i=some x):0<=i/\i.toNat<=l.length/\(l.map e).take i.toNat=x.map e:=by
 obtain⟨h1,h2,h3⟩:=KN (e:=e) h
 simp_all
theorem PW(h:Zy l i=some x):0<=i/\i.toNat<=l.length/\((l.map e).drop i.toNat).take (l.length-i.toNat)=x.map e:=by
 unfold Zy at h;split at h
 .rename_i hc;obtain rfl:=Raa h
  grind[List.map_drop,wac]
 .cases h
theorem yO(h:Zy l i=some x):0<=i/\i.toNat<=l.length/\((l.map e).take l.length).drop i.toNat=x.map e:=by
 obtain⟨h1,h2,h3⟩:=PW (e:=e) h
 grind[wac]
theorem subl_o(h:Zy l i=some x):0<=i/\i.toNat<=l.length/\i.toNat+x.length<=l.length/\l.length-i.toNat=x.length/\((l.map e).drop i.toNat).take x.length=x.map e:=by
 obtain⟨h1,h2,a⟩:=PW (e:=e) h;have h4:l.length-i.toNat=x.length:=by
  have:=congrArg List.length a
  grind
 grind
theorem quo_f{k:IntKind}{a c d:Int}(h:quo k a c=some d):¬c=0/\ca k (a.tdiv c)=d:=by
 grind[quo]
theorem A6{k:IntKind}{a c d:Int}(h:rem k a c=some d):¬c=0/\a.tmod c=d:=by
 grind[rem]
end
theorem UA:∀n:Nat,Tm.ds n []=raa n .dead
 |0=>rfl
 |n+1=>by rw[mj,UA n];rfl
theorem Den.at{k:Nat}{F:Fun}{l:List D}{o:D}(n:Nat) (hF:ou P k=some F) (hname:((P.funcs[k]?).map λfn=>fn.name == "runtime.NumGoroutine")=some false) (hf:fa l=true)
 (hn:F.ntmps=l.length+n) (h:T P 0 F.code (jG F.results o) ⟨l++Tm.ds n [],[]⟩):Den P k l o:=by
 grind[Den.of,UA]
section
variable {P:Program} {N:Nat} {ops:Array Oper} {Q:Exit->Act->World->Prop} {K:St->Prop} {rl:List RI} {q:Nat} {ps:List (List Nat)}
def qR(R:List (List Nat)->St->Prop) (fp:List (List Nat)) (p:List Nat) (dst:Option Tmp) (i:I) (s:St):Prop:=
 gz fp (Rl s (.op dst none i)) p=true/\Jf s i=true/\Ko (ea s i) (KO (R (fp++[Rl s (.op dst none i)])) s dst)
def skY(R:List (List Nat)->St->Prop) (fp:List (List Nat)) (p:List Nat) (dst:Option Tmp) (i:I) (s:St):Prop:=
 gz fp (Rl s (.op dst none i)) p=true/\R (fp++[Rl s (.op dst none i)]) (s.put dst (.v undef))
def lu(P:Program) (k:FuncId) (ds:List D) (ids:List Nat) (R:St->Prop) (s:St) (dst:Option Tmp):Prop:=
 ∃d,((∀id∈ids,id<s.m.length)/\∀m,(∀id∈ids,m[id]?=s.m[id]?)->CallT P k ds m λd' m'=>d'=d/\m'=m)/\R (s.put dst d)
def sT(P:Program) (R:List (List Nat)->St->Prop) (fp:List (List Nat)) (p:List Nat) (k:FuncId) (dst:Option Tmp) (args:List Operand) (s:St):Prop:=gz fp (Mb s args) p=true/\lu P k (args.map s.ev) (Mb s args) (R (fp++[Mb s args])) s dst
def cnY(R:List (List Nat)->St->Prop) (fp:List (List Nat)) (p:List Nat) (dst:Option Tmp) (args:List Operand) (s:St):Prop:=gz fp (Mb s args) p=true/\R (fp++[Mb s args]) (s.put dst (.v undef))
def Pt(P:Program):List (List Nat)->Nat->List RI->(St->Prop)->List (List Nat)->St->Prop
 |_,0,l,K,_,s=>Zg P l K s
 |_,_+1,[],_,_,_=>False
 |ps,q+1,.op dst none i::l,K,fp,s=>qR (Pt P ps.tail q l K) fp (ps.headD []) dst i s
 |ps,q+1,.op dst (some (t,b)) i::l,K,fp,s=>
  gD (s.t.getD t .dead) b (qR (Pt P ps.tail q l K) fp (ps.headD []) dst i) ⟨s.t.set t (.v (.bool b)),s.m⟩ (skY (Pt P ps.tail q l K) fp (ps.headD []) dst i) ⟨s.t.set t (.v (.bool (!b))),s.m⟩ s
 |ps,q+1,.call dst none (.func k) args::l,K,fp,s=>sT P (Pt P ps.tail q l K) fp (ps.headD []) k dst args s
 |ps,q+1,.call dst (some (t,b)) (.func k) args::l,K,fp,s=>
  gD (s.t.getD t .dead) b (sT P (Pt P ps.tail q l K) fp (ps.headD []) k dst args) ⟨s.t.set t (.v (.bool b)),s.m⟩ (cnY (Pt P ps.tail q l K) fp (ps.headD []) dst args) ⟨s.t.set t (.v (.bool (!b))),s.m⟩ s
 |_,_+1,.call ..::_,_,_,_=>False
theorem uE{d:D}{b:Bool}{t:List D}{i:Nat}(hd:t.getD i .dead=d) {m:List Ent}{a e:St->Prop}(h:gD d b a ⟨t.set i (.v (.bool b)),m⟩ e ⟨t.set i (.v (.bool (!b))),m⟩ ⟨t,m⟩) :
 match gate ⟨t,m⟩ (some (i,b))with
 |none=>False
 |some none=>True
 |some (some (c,b))=>(c=b->a ⟨t,m⟩)/\(c≠b->e ⟨t,m⟩):=by
 simp only[gate,hd];unfold gD at h
 cases d with
 |v x=>
  cases x with
  |bool c=>
   simp only[gQ]at h⊢;have f:=uA hd (by simp);refine⟨λhc=>?_,λhc=>?_⟩
   .subst hc;have:=h.1 rfl
    simp_all
   .have:=h.2 hc;rwa [show(!b)=c by cases b<;>cases c<;>simp_all,f]at this
  |_=>cases b<;>simpa using h
 |_=>exact h
theorem RB:∀{q:Nat}{l:List RI}{ps:List (List Nat)}{fp:List (List Nat)}{s:St},Pt P ps q l K fp s->Qv P ps fp q l K s
 |0,l,ps,fp,s,h=>by simp only[Pt]at h;simp only[Qv];exact ur h
 |q+1,[],ps,fp,s,h=>by simp only[Pt]at h
 |q+1,.op dst none i::l,ps,fp,s,h=>by
  simp only[Pt,qR]at h;obtain⟨e,a,h2⟩:=h;simp only[Qv,gate];obtain⟨d,m',j,m⟩:=(Rk _ _).1 h2;exact⟨e,d,m',a,j,RB m⟩
 |q+1,.op dst (some (t,b)) i::l,ps,fp,⟨st,sm⟩,h=>by
  simp only[Pt]at h;have h:=uE rfl h;have f:∀s,Rl s (.op dst (some (t,b)) i)=Rl s (.op dst none i):=λ_=>rfl;simp only[Qv];rw[f];split at h
  .simp_all
  .grind[gate]
  .rename_i c g o;simp only[o];by_cases hc:c=g
   .obtain⟨e,a,h2⟩:=h.1 hc;obtain⟨d,m',j,m⟩:=(Rk _ _).1 h2;exact⟨e,λ_=>⟨d,m',a,j,RB m⟩,λhn=>(hn hc).elim⟩
   .obtain⟨e,h2⟩:=h.2 hc;exact⟨e,λhn=>(hc hn).elim,λ_=>RB h2⟩
 |q+1,.call dst none (.func k) args::l,ps,fp,s,h=>by
  simp only[Pt,sT,lu]at h;obtain⟨a,d,e,h2⟩:=h;simp only[Qv,gate];exact⟨a,d,by simp_all,RB h2⟩
 |q+1,.call dst (some (t,b)) (.func k) args::l,ps,fp,⟨st,sm⟩,h=>by
  simp only[Pt]at h;have h:=uE rfl h;simp only[Qv];have n:St.cv ⟨st,sm⟩ (.func k)=.fn k [] []:=rfl;simp only[n];split at h
  .simp_all
  .grind[gate]
  .rename_i c g o;simp only[o];by_cases hc:c=g
   .obtain⟨a,d,e,h2⟩:=h.1 hc;exact⟨a,λ_=>⟨d,by simp_all,RB h2⟩,λhn=>(hn hc).elim⟩
   .obtain⟨a,h2⟩:=h.2 hc;exact⟨a,λhn=>(hc hn).elim,λ_=>RB h2⟩
 |q+1,.call dst none (.tmp _) args::l,ps,fp,s,h=>by simp only[Pt]at h
 |q+1,.call dst none (.const _) args::l,ps,fp,s,h=>by simp only[Pt]at h
 |q+1,.call dst none (.global _) args::l,ps,fp,s,h=>by simp only[Pt]at h
 |q+1,.call dst (some _) (.tmp _) args::l,ps,fp,s,h=>by simp only[Pt]at h
 |q+1,.call dst (some _) (.const _) args::l,ps,fp,s,h=>by simp only[Pt]at h
 |q+1,.call dst (some _) (.global _) args::l,ps,fp,s,h=>by simp only[Pt]at h
 |q+1,.call dst none (.meth _ _) args::l,ps,fp,s,h=>by simp only[Pt]at h
 |q+1,.call dst (some _) (.meth _ _) args::l,ps,fp,s,h=>by simp only[Pt]at h
theorem T.dy(hm:P.follows .mixedOrders=true) {l:List RI}{K:Exit->St->Prop}{s:St}(h:Pt P [] q l (K .normal) [] s):T P N (.draw q l) K s:=
 T.drawO hm (Dt (RB h))
theorem T.ay(hm:P.follows .mixedOrders=true) {cuts:List Nat}{bs:List (List Nat)}{l:List RI}{K:Exit->St->Prop}{s:St}(ps:List (List Nat)) (a:Et bs l q ps []=true) (h:Pt P ps q l (K .normal) [] s):T P N (.any cuts q bs l) K s:=
 T.any2 hm ps a (RB h)
end
section
variable {P:Program}
theorem XH{k:Nat}{ds ds':List D}{o:D}{R:St->Prop}{s:St}{dst:Option Tmp}(h:Den P k ds' o) (hf:R (s.put dst o)) (a:dz (Sq [] [] 9) ds ds'):lu P k ds [] R s dst:=
 ⟨o,⟨λ_ h=>(by cases h),λm _=>⟨(h m).1,λG w vs hv hi=>(h m).2 G w vs ((sA (Mt (Ts 9) a)).1 vs hv) hi⟩⟩,hf⟩
def Lq(m:List Ent) (d e:D):Prop:=
 match d,e with
 |.own j v,.sl S b=>match m[j]? with|some (.live S' c a)=>S'=S/\c=v/\a=b/\fa a=true|_=>False
 |.view j v lo n,.sl S b=>match m[j]? with|some (.live S' c a)=>S'=S/\c=v/\lo+n<=a.length/\(a.drop lo).take n=b/\fa b=true|_=>False
 |.ref j v x s,.pt e=>match m[j]? with|some (.live _ c a)=>c=v/\s=0/\a[x]?=some e/\la e=true|_=>False
 |d,e=>Sq [] [] 9 d e
theorem sbs_up{l r:List D}(h:Sbs [] [] l r) (m:List Ent):Sbs [] m l r:=by
 induction h with
 |nil=>exact .nil
 |same hf h b=>exact .same hf b
 |dead h b=>exact .dead b
 |nils h b=>exact .nils b
 |agg ha h a b=>exact .agg a b
 |tup ha h a b=>exact .tup a b
 |sl ha h a b=>exact .sl a b
 |pt ha h a b=>exact .pt a b
 |fn ha hc h a c b=>exact .fn a c b
 |ifc ha h a b=>exact .ifc a b
 |mw i hi=>simp at hi
 |own hi=>simp at hi
 |ref hi=>simp at hi
 |view hi=>simp at hi
 |mp hi=>simp at hi
 |bf hm=>simp at hm
 |fview hm=>simp at hm
 |fref hm=>simp at hm
theorem lq_sbs{m m':List Ent}{ids:List Nat}(hm:∀id∈ids,m'[id]?=m[id]?) {d e:D}{l r:List D}(h:Lq m d e) (c:(match Nd d with|some j=>ids.contains j|none=>true)=true) (f:Sbs [] m' l r):Sbs [] m' (d::l) (e::r):=by
 unfold Lq at h;split at h
 .rename_i j v S b;simp only[Nd,dab]at c;split at h
  .rename_i S' g a hj;obtain⟨rfl,rfl,rfl,hf⟩:=h;exact .bf (by simp_all) rfl (Sbs.free hf) f
  simp_all
 .rename_i j v lo n S b;simp only[Nd,dab]at c;split at h
  .rename_i S' g a hj;obtain⟨rfl,rfl,hn,rfl,hf⟩:=h;exact .fview (by simp_all) rfl hn (Sbs.free hf) f
  simp_all
 .rename_i j v x s e;simp only[Nd,dab]at c;split at h
  .rename_i S' g a hj;obtain⟨rfl,rfl,hx,hf⟩:=h;exact .fref (by rw[hm j c];omega) rfl hx (.same hf .nil) f
  simp_all
 .have i:=sbs_up (Ts 9 d e [] [] h .nil) m';exact Sbs.app (a:=[d]) (b:=[e]) i f
def Ay(ids:List Nat) (ds:List D):Bool:=ds.all λd=>match Nd d with|some j=>ids.contains j|none=>true
theorem jD{m m':List Ent}{ids:List Nat}(hm:∀id∈ids,m'[id]?=m[id]?):∀{a b:List D},dz (Lq m) a b->Ay ids a=true->Sbs [] m' a b
 |[],[],_,_=>.nil
 |d::l,e::r,h,ht=>by
  simp only[Ay,Gab,Caa]at ht;exact lq_sbs hm h.1 ht.1 (jD hm h.2 ht.2)
 |[],_::_,h,_=>h.elim
 |_::_,[],h,_=>h.elim
theorem MD{k:Nat}{ids:List Nat}{ds ds':List D}{o:D}{R:St->Prop}{s:St}{dst:Option Tmp}(h:Den P k ds' o) (hf:R (s.put dst o)) (a:flat o=true) (hi:(ids.all λi=>decide (i<s.m.length))=true) (ht:Ay ids ds=true) (b:dz (Lq s.m) ds ds'):lu P k ds ids R s dst:=by
 refine⟨o,⟨λid hid=>?_,λm hm=>?_⟩,hf⟩
 .simp_all
 .exact Hy h (jD hm b ht) a ⟨rfl,rfl⟩
variable {m:List Ent} {S x y lo n s:Nat} {b:List D} {e:D}
theorem lq_own:Lq m (.own x y) (.sl S b)=(match m[x]? with|some (.live S' c a)=>S'=S/\c=y/\a=b/\fa a=true|_=>False):=paa rfl rfl
theorem IZ:Lq m (.view x y lo n) (.sl S b)=(match m[x]? with|some (.live S' c a)=>S'=S/\c=y/\lo+n<=a.length/\(a.drop lo).take n=b/\fa b=true|_=>False):=paa rfl rfl
theorem lq_ref{z:Nat}:Lq m (.ref x y z s) (.pt e)=(match m[x]? with|some (.live _ b a)=>b=y/\s=0/\a[z]?=some e/\la e=true|_=>False):=paa rfl rfl
theorem lq_v{z:Value}:Lq m (.v z) e=Sq [] [] 9 (.v z) e:=paa rfl rfl
theorem lq_agg{z:List D}:Lq m (.agg z) e=Sq [] [] 9 (.agg z) e:=paa rfl rfl
theorem lq_sl{z:List D}:Lq m (.sl S z) e=Sq [] [] 9 (.sl S z) e:=paa rfl rfl
theorem lq_pt{z:D}:Lq m (.pt z) e=Sq [] [] 9 (.pt z) e:=paa rfl rfl
theorem lq_fr{α:Type}{f:α->D} [Fr f] {l:List α}:fa (l.map f)=true:=Fr.l l
theorem lq_len{α:Type}{f:α->D}{l:List α}:(l.map f).length=l.length:=lab f
end
variable {P:Program}
theorem rd_mv{s:St}{d:Option Tmp}{g:Option (Tmp×Bool)}{a:Operand}:Rl s (.op d g (.mv a))=[]:=paa rfl rfl
theorem sb_mv{s:St}{a:Operand}:Jf s (.mv a)=true:=paa rfl rfl
theorem Q1{s:St}{d:Option Tmp}{g:Option (Tmp×Bool)}{a:Operand}{b:Operand}{c:Operand}:Rl s (.op d g (.pick a b c))=[]:=paa rfl rfl
theorem T2{s:St}{a:Operand}{b:Operand}{c:Operand}:Jf s (.pick a b c)=true:=paa rfl rfl
theorem rd_bin{s:St}{d:Option Tmp}{g:Option (Tmp×Bool)}{a:BinOp}{b:Operand}{c:Operand}:Rl s (.op d g (.bin a b c))=[]:=paa rfl rfl
theorem sb_bin{s:St}{a:BinOp}{b:Operand}{c:Operand}:Jf s (.bin a b c)=true:=paa rfl rfl
theorem rd_beq{s:St}{d:Option Tmp}{g:Option (Tmp×Bool)}{a:Bool}{b:Operand}{c:Operand}:Rl s (.op d g (.beq a b c))=[]:=paa rfl rfl
theorem sb_beq{s:St}{a:Bool}{b:Operand}{c:Operand}:Jf s (.beq a b c)=true:=paa rfl rfl
theorem rd_un{s:St}{d:Option Tmp}{g:Option (Tmp×Bool)}{a:UnOp}{b:Operand}:Rl s (.op d g (.un a b))=[]:=paa rfl rfl
theorem sb_un{s:St}{a:UnOp}{b:Operand}:Jf s (.un a b)=true:=paa rfl rfl
theorem J1{s:St}{d:Option Tmp}{g:Option (Tmp×Bool)}{a:IntKind}{b:Operand}:Rl s (.op d g (.conv a b))=[]:=paa rfl rfl
theorem K2{s:St}{a:IntKind}{b:Operand}:Jf s (.conv a b)=true:=paa rfl rfl
theorem PV{s:St}{d:Option Tmp}{g:Option (Tmp×Bool)}{a:Nat}{b:D}:Rl s (.op d g (.alloc a b))=[]:=paa rfl rfl
theorem nW{s:St}{a:Nat}{b:D}:Jf s (.alloc a b)=true:=paa rfl rfl
theorem rd_box{s:St}{d:Option Tmp}{g:Option (Tmp×Bool)}{a:Nat}{b:Operand}:Rl s (.op d g (.box a b))=[]:=paa rfl rfl
theorem sb_box{s:St}{a:Nat}{b:Operand}:Jf s (.box a b)=true:=paa rfl rfl
theorem QV{s:St}{d:Option Tmp}{g:Option (Tmp×Bool)}{a:List D}{b:List (Nat×Nat×Operand)}:Rl s (.op d g (.build a b))=[]:=paa rfl rfl
theorem oW{s:St}{a:List D}{b:List (Nat×Nat×Operand)}:Jf s (.build a b)=true:=paa rfl rfl
theorem BR{s:St}{d:Option Tmp}{g:Option (Tmp×Bool)}{a:Nat}{b:Nat}{c:D}{e:List (Nat×Operand)}:Rl s (.op d g (.bslice a b c e))=[]:=paa rfl rfl
theorem LR{s:St}{a:Nat}{b:Nat}{c:D}{d:List (Nat×Operand)}:Jf s (.bslice a b c d)=true:=paa rfl rfl
theorem L1{s:St}{d:Option Tmp}{g:Option (Tmp×Bool)}{b:Bool}{c:Nat}{a:Operand}:Rl s (.op d g (.load b c a))=Cr s [a]:=paa rfl rfl
theorem N2{s:St}{a:Bool}{b:Nat}{c:Operand}:Jf s (.load a b c)=true:=paa rfl rfl
theorem fW{s:St}{d:Option Tmp}{g:Option (Tmp×Bool)}{b:Nat}{a:Operand}{c:Operand}:Rl s (.op d g (.store b a c))=Cr s [a]:=paa rfl rfl
theorem zW{s:St}{a:Nat}{b:Operand}{c:Operand}:Jf s (.store a b c)=true:=paa rfl rfl
theorem P1{s:St}{d:Option Tmp}{g:Option (Tmp×Bool)}{a:Operand}:Rl s (.op d g (.nilc a))=[]:=paa rfl rfl
theorem Q2{s:St}{a:Operand}:Jf s (.nilc a)=true:=paa rfl rfl
theorem dW{s:St}{d:Option Tmp}{g:Option (Tmp×Bool)}{b:Nat}{a:Operand}{c:Option Operand}{e:Option Operand}{f:Option Operand}:Rl s (.op d g (.slice b a c e f))=Cr s [a]:=paa rfl rfl
theorem yW{s:St}{a:Nat}{b:Operand}{c:Option Operand}{d:Option Operand}{e:Option Operand}:Jf s (.slice a b c d e)=true:=paa rfl rfl
theorem SV{s:St}{d:Option Tmp}{g:Option (Tmp×Bool)}{a:Bool}{b:Nat}{c:Nat}{e:Operand}:Rl s (.op d g (.faddr a b c e))=[]:=paa rfl rfl
theorem pW{s:St}{a:Bool}{b:Nat}{c:Nat}{d:Operand}:Jf s (.faddr a b c d)=true:=paa rfl rfl
theorem TV{s:St}{d:Option Tmp}{g:Option (Tmp×Bool)}{a:Bool}{b:Nat}{c:Nat}{e:Operand}:Rl s (.op d g (.field a b c e))=[]:=paa rfl rfl
theorem qW{s:St}{a:Bool}{b:Nat}{c:Nat}{d:Operand}:Jf s (.field a b c d)=true:=paa rfl rfl
theorem VV{s:St}{d:Option Tmp}{g:Option (Tmp×Bool)}{b:Nat}{a:Operand}{c:Operand}:Rl s (.op d g (.iaddr b a c))=Cr s [a]:=paa rfl rfl
theorem rW{s:St}{a:Nat}{b:Operand}{c:Operand}:Jf s (.iaddr a b c)=true:=paa rfl rfl
theorem OV{s:St}{d:Option Tmp}{g:Option (Tmp×Bool)}{a:Bool}{b:Nat}{c:Nat}{e:Operand}{f:Operand}:Rl s (.op d g (.aaddr a b c e f))=[]:=paa rfl rfl
theorem mW{s:St}{a:Bool}{b:Nat}{c:Nat}{d:Operand}{e:Operand}:Jf s (.aaddr a b c d e)=true:=paa rfl rfl
theorem WV{s:St}{d:Option Tmp}{g:Option (Tmp×Bool)}{a:Bool}{b:Nat}{c:Nat}{e:Operand}{f:Operand}:Rl s (.op d g (.index a b c e f))=[]:=paa rfl rfl
theorem sW{s:St}{a:Bool}{b:Nat}{c:Nat}{d:Operand}{e:Operand}:Jf s (.index a b c d e)=true:=paa rfl rfl
theorem nN{s:St}{d:Option Tmp}{g:Option (Tmp×Bool)}{a:Operand}{b:Nat}:Rl s (.op d g (.extract a b))=[]:=paa rfl rfl
theorem CN{s:St}{a:Operand}{b:Nat}:Jf s (.extract a b)=true:=paa rfl rfl
theorem rd_len{s:St}{d:Option Tmp}{g:Option (Tmp×Bool)}{a:Operand}:Rl s (.op d g (.len a))=Cr s [a]:=paa rfl rfl
theorem sb_len{s:St}{a:Operand}:Jf s (.len a)=true:=paa rfl rfl
theorem U1{s:St}{d:Option Tmp}{g:Option (Tmp×Bool)}{a:Operand}:Rl s (.op d g (.slen a))=[]:=paa rfl rfl
theorem V2{s:St}{a:Operand}:Jf s (.slen a)=true:=paa rfl rfl
theorem AR{s:St}{d:Option Tmp}{g:Option (Tmp×Bool)}{c:Nat}{e:Nat}{a:Operand}{b:Operand}:Rl s (.op d g (.append c e a b))=Cr s [a,b]:=paa rfl rfl
theorem KR{s:St}{b:Nat}{c:Nat}{a:Operand}{d:Operand}:Jf s (.append b c a d)=(match s.ev a with|.own ..=>true|_=>false):=paa rfl rfl
theorem oN{s:St}{d:Option Tmp}{g:Option (Tmp×Bool)}{a:Nat}{b:Nat}{c:D}{e:Operand}{f:Operand}:Rl s (.op d g (.mkslice a b c e f))=[]:=paa rfl rfl
theorem DN{s:St}{a:Nat}{b:Nat}{c:D}{d:Operand}{e:Operand}:Jf s (.mkslice a b c d e)=true:=paa rfl rfl
theorem CR{s:St}{d:Option Tmp}{g:Option (Tmp×Bool)}{a:FuncId}{b:List Operand}{c:List Operand}:Rl s (.op d g (.mkfunc a b c))=[]:=paa rfl rfl
theorem MR{s:St}{a:FuncId}{b:List Operand}{c:List Operand}:Jf s (.mkfunc a b c)=true:=paa rfl rfl
theorem K1{s:St}{d:Option Tmp}{g:Option (Tmp×Bool)}  : Rl s (.op d g (.fail))=[]:=paa rfl rfl
theorem L2{s:St}  : Jf s (.fail)=true:=paa rfl rfl
theorem rd_mm{s:St}{d:Option Tmp}{g:Option (Tmp×Bool)}{a:Bool}{b:List Operand}:Rl s (.op d g (.mm a b))=[]:=paa rfl rfl
theorem sb_mm{s:St}{a:Bool}{b:List Operand}:Jf s (.mm a b)=true:=paa rfl rfl
theorem rd_ceq{s:St}{d:Option Tmp}{g:Option (Tmp×Bool)}{a:Bool}{b:List Nat}{c:Operand}{e:Operand}:Rl s (.op d g (.ceq a b c e))=[]:=paa rfl rfl
theorem sb_ceq{s:St}{a:Bool}{b:List Nat}{c:Operand}{d:Operand}:Jf s (.ceq a b c d)=true:=paa rfl rfl
theorem V1{s:St}{d:Option Tmp}{g:Option (Tmp×Bool)}{a:Nat}{b:Operand}:Rl s (.op d g (.strb a b))=[]:=paa rfl rfl
theorem W2{s:St}{a:Nat}{b:Operand}:Jf s (.strb a b)=true:=paa rfl rfl
theorem T1{s:St}{d:Option Tmp}{g:Option (Tmp×Bool)}{a:Operand}{b:Operand}:Rl s (.op d g (.Bv a b))=[]:=paa rfl rfl
theorem U2{s:St}{a:Operand}{b:Operand}:Jf s (.Bv a b)=true:=paa rfl rfl
theorem DR{s:St}{d:Option Tmp}{g:Option (Tmp×Bool)}{a:Operand}{b:Option Operand}{c:Option Operand}:Rl s (.op d g (.sslice a b c))=[]:=paa rfl rfl
theorem NR{s:St}{a:Operand}{b:Option Operand}{c:Option Operand}:Jf s (.sslice a b c)=true:=paa rfl rfl
theorem ZV{s:St}{d:Option Tmp}{g:Option (Tmp×Bool)}  : Rl s (.op d g (.mkmap))=[]:=paa rfl rfl
theorem vW{s:St}  : Jf s (.mkmap)=true:=paa rfl rfl
theorem aW{s:St}{d:Option Tmp}{g:Option (Tmp×Bool)}{b:Nat}{c:Bool}{e:D}{a:Operand}{f:Operand}:Rl s (.op d g (.mlook b c e a f))=Cr s [a]:=paa rfl rfl
theorem wW{s:St}{a:Nat}{b:Bool}{c:D}{d:Operand}{e:Operand}:Jf s (.mlook a b c d e)=true:=paa rfl rfl
theorem O1{s:St}{d:Option Tmp}{g:Option (Tmp×Bool)}{a:Nat}{b:Operand}{c:Operand}{e:Operand}:Rl s (.op d g (.mput a b c e))=[]:=paa rfl rfl
theorem P2{s:St}{a:Nat}{b:Operand}{c:Operand}{d:Operand}:Jf s (.mput a b c d)=true:=paa rfl rfl
theorem N1{s:St}{d:Option Tmp}{g:Option (Tmp×Bool)}{a:Operand}:Rl s (.op d g (.mlen a))=Cr s [a]:=paa rfl rfl
theorem O2{s:St}{a:Operand}:Jf s (.mlen a)=true:=paa rfl rfl
theorem gW{s:St}{d:Option Tmp}{g:Option (Tmp×Bool)}{b:Nat}{a:Operand}{c:Option Operand}{e:Option Operand}:Rl s (.op d g (.trunc b a c e))=Cr s [a]:=paa rfl rfl
theorem AW{s:St}{b:Nat}{a:Operand}{c:Option Operand}{d:Option Operand}:Jf s (.trunc b a c d)=(match s.ev a with|.own ..=>true|_=>false):=paa rfl rfl
theorem YV{s:St}{d:Option Tmp}{g:Option (Tmp×Bool)}{a:TypeId}{b:Operand}:Rl s (.op d g (.mkifc a b))=[]:=paa rfl rfl
theorem uW{s:St}{a:TypeId}{b:Operand}:Jf s (.mkifc a b)=true:=paa rfl rfl
theorem pN{s:St}{d:Option Tmp}{g:Option (Tmp×Bool)}{a:Bool}{b:TypeId}{c:D}{e:Operand}:Rl s (.op d g (.tassert a b c e))=[]:=paa rfl rfl
theorem EN{s:St}{a:Bool}{b:TypeId}{c:D}{d:Operand}:Jf s (.tassert a b c d)=true:=paa rfl rfl
theorem rd_clr{s:St}{d:Option Tmp}{g:Option (Tmp×Bool)}{a:Nat}{b:D}{c:Operand}:Rl s (.op d g (.clr a b c))=[]:=paa rfl rfl
theorem sb_clr{s:St}{a:Nat}{b:D}{c:Operand}:Jf s (.clr a b c)=true:=paa rfl rfl
theorem F1{s:St}{d:Option Tmp}{g:Option (Tmp×Bool)}{a:Operand}:Rl s (.op d g (.capn a))=[]:=paa rfl rfl
theorem F2{s:St}{a:Operand}:Jf s (.capn a)=true:=paa rfl rfl
theorem bW{s:St}{d:Option Tmp}{g:Option (Tmp×Bool)}{b:Bool}{a:Operand}:Rl s (.op d g (.Bo b a))=Cr s [a]:=paa rfl rfl
theorem xW{s:St}{a:Bool}{b:Operand}:Jf s (.Bo a b)=true:=paa rfl rfl
theorem XV{s:St}{d:Option Tmp}{g:Option (Tmp×Bool)}{a:Nat}{b:Nat}{c:D}{e:Operand}{f:Operand}:Rl s (.op d g (.mkapp a b c e f))=[]:=paa rfl rfl
theorem tW{s:St}{a:Nat}{b:Nat}{c:D}{d:Operand}{e:Operand}:Jf s (.mkapp a b c d e)=true:=paa rfl rfl
section
variable {ps:List (List Nat)} {q k t:Nat} {b:Bool} {dst:Option Tmp} {i:I} {l:List RI} {K:St->Prop} {fp:List (List Nat)} {s:St} {args:List Operand} {R:List (List Nat)->St->Prop} {p f g:List Nat} {x y:Nat} {o:Operand} {os:List Operand} {st:List D} {m:List Ent} {S:Nat} {r:List D}
theorem AY:Pt P ps 0 l K fp s=Zg P l K s:=by simp only[Pt]
theorem dy_op:Pt P ps (q+1) (.op dst none i::l) K fp s=qR (Pt P ps.tail q l K) fp (ps.headD []) dst i s:=by simp only[Pt]
theorem q8:Pt P ps (q+1) (.op dst (some (t,b)) i::l) K fp ⟨st,m⟩=gD (st.getD t .dead) b (qR (Pt P ps.tail q l K) fp (ps.headD []) dst i) ⟨st.set t (.v (.bool b)),m⟩ (skY (Pt P ps.tail q l K) fp (ps.headD []) dst i) ⟨st.set t (.v (.bool (!b))),m⟩ ⟨st,m⟩:=by simp only[Pt]
theorem zY:Pt P ps (q+1) (.call dst none (.func k) args::l) K fp s=sT P (Pt P ps.tail q l K) fp (ps.headD []) k dst args s:=by simp only[Pt]
theorem bU:Pt P ps (q+1) (.call dst (some (t,b)) (.func k) args::l) K fp ⟨st,m⟩=gD (st.getD t .dead) b (sT P (Pt P ps.tail q l K) fp (ps.headD []) k dst args) ⟨st.set t (.v (.bool b)),m⟩ (cnY (Pt P ps.tail q l K) fp (ps.headD []) dst args) ⟨st.set t (.v (.bool (!b))),m⟩ ⟨st,m⟩:=by simp only[Pt]
theorem opY_q:qR R fp p dst i s=(gz fp (Rl s (.op dst none i)) p=true/\Jf s i=true/\Ko (ea s i) (KO (R (fp++[Rl s (.op dst none i)])) s dst)):=paa rfl rfl
theorem skY_q:skY R fp p dst i s=(gz fp (Rl s (.op dst none i)) p=true/\R (fp++[Rl s (.op dst none i)]) (s.put dst (.v undef))):=paa rfl rfl
theorem clY_q:sT P R fp p k dst args s=(gz fp (Mb s args) p=true/\lu P k (args.map s.ev) (Mb s args) (R (fp++[Mb s args])) s dst):=paa rfl rfl
theorem cnY_q:cnY R fp p dst args s=(gz fp (Mb s args) p=true/\R (fp++[Mb s args]) (s.put dst (.v undef))):=paa rfl rfl
theorem td_nil:Mb s []=[]:=paa rfl rfl
theorem r4:Mb s (o::os)=Cl (s.ev o)++Mb s os:=paa rfl rfl
theorem id_v{z:Value}:Cl (.v z)=[]:=paa rfl rfl
theorem E9:Cl (.agg r)=Yj r:=paa rfl rfl
theorem I9:Cl (.tup r)=Yj r:=paa rfl rfl
theorem id_sl:Cl (.sl S r)=Yj r:=paa rfl rfl
theorem id_pt{d:D}:Cl (.pt d)=Cl d:=paa rfl rfl
theorem id_fn{a c:List D}:Cl (.fn k a c)=Yj a++Yj c:=paa rfl rfl
theorem qZ:Cl .dead=[]:=paa rfl rfl
theorem G9:Cl (.own x y)=[x]:=paa rfl rfl
theorem H9{u v:Nat}:Cl (.ref x y u v)=[x]:=paa rfl rfl
theorem rZ{u v:Nat}:Cl (.view x y u v)=[x]:=paa rfl rfl
theorem F9:Yj []=[]:=paa rfl rfl
theorem pZ{d:D}:Yj (d::r)=Cl d++Yj r:=paa rfl rfl
theorem id_map{α:Type}{f:α->D} [Fr f] {l:List α}:Yj (l.map f)=[]:=Fs (Fr.l l)
theorem oX:Cr s []=[]:=paa rfl rfl
theorem XR:Cr s (o::os)=(match Nd (s.ev o)with|some id=>id::Cr s os|none=>Cr s os):=paa rfl rfl
theorem D7:gz fp f []=true:=paa rfl rfl
theorem fY{j:Nat}:gz fp f (j::p)=(Mo (fp.getD j []) f&&gz fp f p):=paa rfl rfl
theorem ap_n1:Mo [] f=true:=paa rfl rfl
theorem ap_n2:Mo (x::g) f=(ow x f&&Mo g f):=paa rfl rfl
theorem ap_0:ow x []=true:=paa rfl rfl
theorem ap_s:ow x (y::g)=(EK x y&&ow x g):=paa rfl rfl
theorem ne_00:EK 0 0=false:=paa rfl rfl
theorem ne_0S:EK 0 (y+1)=true:=paa rfl rfl
theorem ne_S0:EK (x+1) 0=true:=paa rfl rfl
theorem ne_SS:EK (x+1) (y+1)=EK x y:=paa rfl rfl
theorem top_v{z:Value}:Nd (.v z)=none:=paa rfl rfl
theorem I4:Nd (.agg r)=none:=paa rfl rfl
theorem L4:Nd (.tup r)=none:=paa rfl rfl
theorem top_sl:Nd (.sl S r)=none:=paa rfl rfl
theorem top_pt{d:D}:Nd (.pt d)=none:=paa rfl rfl
theorem mX:Nd .dead=none:=paa rfl rfl
theorem J4:Nd (.own x y)=some x:=paa rfl rfl
theorem K4{u v:Nat}:Nd (.ref x y u v)=some x:=paa rfl rfl
theorem nX{u v:Nat}:Nd (.view x y u v)=some x:=paa rfl rfl
theorem hd_n{l:List Nat}{ps:List (List Nat)}:(l::ps).headD []=l:=paa rfl rfl
theorem tl_n{l:List Nat}{ps:List (List Nat)}:(l::ps).tail=ps:=paa rfl rfl
theorem hd_0:([]:List (List Nat)).headD []=[]:=paa rfl rfl
theorem tl_0:([]:List (List Nat)).tail=[]:=paa rfl rfl
end
def zy:=(And.intro (And.intro (And.intro (And.intro (And.intro (And.intro (And.intro (And.intro @rd_mv @sb_mv) (And.intro @Q1 @T2)) (And.intro (And.intro @rd_bin @sb_bin) (And.intro @rd_beq @sb_beq))) (And.intro (And.intro (And.intro @rd_un @sb_un) (And.intro @J1 @K2)) (And.intro (And.intro @PV @nW) (And.intro @rd_box @sb_box)))) (And.intro (And.intro (And.intro (And.intro @QV @oW) (And.intro @BR @LR)) (And.intro (And.intro @L1 @N2) (And.intro @fW @zW))) (And.intro (And.intro (And.intro @P1 @Q2) (And.intro @dW @yW)) (And.intro (And.intro @SV @pW) (And.intro @TV @qW))))) (And.intro (And.intro (And.intro (And.intro (And.intro @VV @rW) (And.intro @OV @mW)) (And.intro (And.intro @WV @sW) (And.intro @nN @CN))) (And.intro (And.intro (And.intro @rd_len @sb_len) (And.intro @U1 @V2)) (And.intro (And.intro @AR @KR) (And.intro @oN @DN)))) (And.intro (And.intro (And.intro (And.intro @CR @MR) (And.intro @K1 @L2)) (And.intro (And.intro @rd_mm @sb_mm) (And.intro @rd_ceq @sb_ceq))) (And.intro (And.intro (And.intro @V1 @W2) (And.intro @T1 @U2)) (And.intro (And.intro @DR @NR) (And.intro @ZV @vW)))))) (And.intro (And.intro (And.intro (And.intro (And.intro (And.intro @aW @wW) (And.intro @O1 @P2)) (And.intro (And.intro @N1 @O2) (And.intro @gW @AW))) (And.intro (And.intro (And.intro @YV @uW) (And.intro @pN @EN)) (And.intro (And.intro @rd_clr @sb_clr) (And.intro @F1 @F2)))) (And.intro (And.intro (And.intro (And.intro @bW @xW) (And.intro @XV @tW)) (And.intro (And.intro @AY @dy_op) (And.intro @q8 @zY))) (And.intro (And.intro (And.intro @bU @opY_q) (And.intro @skY_q @clY_q)) (And.intro (And.intro @cnY_q @td_nil) (And.intro @r4 @id_v))))) (And.intro (And.intro (And.intro (And.intro (And.intro @E9 @I9) (And.intro @id_sl @id_pt)) (And.intro (And.intro @id_fn @qZ) (And.intro @G9 @H9))) (And.intro (And.intro (And.intro @rZ @F9) (And.intro @pZ @id_map)) (And.intro (And.intro @oX @XR) (And.intro @D7 @fY)))) (And.intro (And.intro (And.intro (And.intro @ap_n1 @ap_n2) (And.intro @ap_0 @ap_s)) (And.intro (And.intro @ne_00 @ne_0S) (And.intro @ne_S0 @ne_SS))) (And.intro (And.intro (And.intro @top_v @I4) (And.intro @L4 @top_sl)) (And.intro (And.intro @top_pt @mX) (And.intro @J4 @K4))))))) (And.intro (And.intro (And.intro (And.intro @nX @hd_n) (And.intro @tl_n @hd_0)) (And.intro (And.intro @tl_0 @lq_own) (And.intro @IZ @lq_ref))) (And.intro (And.intro (And.intro @lq_v @lq_agg) (And.intro @lq_sl @lq_pt)) (And.intro @lq_fr @lq_len))))
section
variable {P:Program} {N:Nat} {ops:Array Oper} {Q:Exit->Act->World->Prop} {K:St->Prop} {rl:List RI} {q:Nat} {ps:List (List Nat)} {pl:List (Option Nat)}
def RY(R:List (List Nat)->St->Prop) (fp:List (List Nat)) (p:List Nat) (k:Nat) (dst:Option Tmp) (i:I) (s:St):Prop:=
 gz fp [k] p=true/\match Am s k i with
  |some (d,e)=>R (fp++[[k]]) (({ s with m:=s.m.set k e }:St).put dst d)
  |none=>False
def JB(P:Program) (k:FuncId) (ds:List D) (ids:List Nat) (fp:List (List Nat)) (p:List Nat) (x:Nat) (f:D->Ent->Prop) (s:St):Prop:=
 (ids.elem x&&gz fp ids p)=true/\∃d e,((∀id∈ids,id<s.m.length)/\∀m,(∀id∈ids,m[id]?=s.m[id]?)->CallT P k ds m λd' m'=>d'=d/\m'=m.set x e)/\f d e
@[congr] theorem H5{P:Program} {k:FuncId} {ds ds':List D} {ids a:List Nat} {fp b:List (List Nat)} {p c:List Nat} {x:Nat} {f:D->Ent->Prop} {s:St} (h1:ds=ds') (h2:ids=a) (h3:fp=b) (h4:p=c):JB P k ds ids fp p x f s=JB P k ds' a b c x f s:=by simp_all
def cwY(P:Program) (R:List (List Nat)->St->Prop) (fp:List (List Nat)) (p:List Nat) (x:Nat) (k:FuncId) (dst:Option Tmp) (args:List Operand) (s:St):Prop:=
 JB P k (args.map s.ev) (Mb s args) fp p x (λd e=>R (fp++[Mb s args]) (({ s with m:=s.m.set x e }:St).put dst d)) s
def Pg(P:Program):List (Option Nat)->List (List Nat)->Nat->List RI->(St->Prop)->List (List Nat)->St->Prop
 |_,_,0,l,K,_,s=>Zg P l K s
 |_,_,_+1,[],_,_,_=>False
 |some k::pl,ps,q+1,.op dst none i::l,K,fp,s=>RY (Pg P pl ps.tail q l K) fp (ps.headD []) k dst i s
 |none::pl,ps,q+1,.op dst none i::l,K,fp,s=>qR (Pg P pl ps.tail q l K) fp (ps.headD []) dst i s
 |none::pl,ps,q+1,.op dst (some (t,b)) i::l,K,fp,s=>
  gD (s.t.getD t .dead) b (qR (Pg P pl ps.tail q l K) fp (ps.headD []) dst i) ⟨s.t.set t (.v (.bool b)),s.m⟩ (skY (Pg P pl ps.tail q l K) fp (ps.headD []) dst i) ⟨s.t.set t (.v (.bool (!b))),s.m⟩ s
 |none::pl,ps,q+1,.call dst none (.func k) args::l,K,fp,s=>sT P (Pg P pl ps.tail q l K) fp (ps.headD []) k dst args s
 |some x::pl,ps,q+1,.call dst none (.func k) args::l,K,fp,s=>cwY P (Pg P pl ps.tail q l K) fp (ps.headD []) x k dst args s
 |_,_,_+1,_::_,_,_,_=>False
theorem uw:∀{q:Nat}{l:List RI}{pl:List (Option Nat)}{ps:List (List Nat)}{fp:List (List Nat)}{s:St},Pg P pl ps q l K fp s->Pm P pl ps fp q l K s
 |0,l,pl,ps,fp,s,h=>by simp only[Pg]at h;simp only[Pm];exact ur h
 |q+1,[],pl,ps,fp,s,h=>by simp[Pg]at h
 |q+1,.op dst none i::l,some k::pl,ps,fp,s,h=>by
  simp only[Pg,RY]at h;obtain⟨j,h2⟩:=h;split at h2
  .rename_i d e hf;simp only[Pm];exact⟨j,trivial,d,e,hf,uw h2⟩
  simp_all
 |q+1,.op dst none i::l,none::pl,ps,fp,s,h=>by
  simp only[Pg,qR]at h;obtain⟨j,a,h2⟩:=h;simp only[Pm,gate];obtain⟨d,m',o,p⟩:=(Rk _ _).1 h2;exact⟨j,d,m',a,o,uw p⟩
 |q+1,.op dst (some (t,b)) i::l,none::pl,ps,fp,⟨st,sm⟩,h=>by
  simp only[Pg]at h;have h:=uE rfl h;have m:∀s,Rl s (.op dst (some (t,b)) i)=Rl s (.op dst none i):=λ_=>rfl;simp only[Pm];show gz fp (Rl _ (.op dst (some (t,b)) i)) (ps.headD [])=true/\_;rw[m];split at h
  .simp_all
  .grind[gate]
  .rename_i c r u;refine⟨?_,?_⟩
   .by_cases hc:c=r
    .exact(h.1 hc).1
    .exact(h.2 hc).1
   rw[u];by_cases hc:c=r
   .obtain⟨j,a,h2⟩:=h.1 hc;obtain⟨d,m',o,p⟩:=(Rk _ _).1 h2;exact⟨λ_=>⟨d,m',a,o,uw p⟩,λhn=>(hn hc).elim⟩
   .obtain⟨j,h2⟩:=h.2 hc;exact⟨λhn=>(hc hn).elim,λ_=>uw h2⟩
 |q+1,.call dst none (.func k) args::l,none::pl,ps,fp,s,h=>by
  simp only[Pg,sT,lu]at h;obtain⟨a,d,j,h2⟩:=h;simp only[Pm,gate];exact⟨a,d,by simp_all,uw h2⟩
 |q+1,.op dst g i::l,[],ps,fp,s,h=>by simp[Pg]at h
 |q+1,.op dst (some g) i::l,some k::pl,ps,fp,s,h=>by simp[Pg]at h
 |q+1,.call dst g f args::l,[],ps,fp,s,h=>by simp[Pg]at h
 |q+1,.call dst none (.func k) args::l,some x::pl,ps,fp,s,h=>by
  simp only[Pg,cwY,JB]at h;obtain⟨a,d,e,j,h2⟩:=h;simp only[Caa,List.elem_eq_mem,decide_eq_true_eq]at a;obtain⟨a,n⟩:=a;simp only[Pm];exact⟨trivial,a,n,d,e,by simp_all,uw h2⟩
 |q+1,.call dst (some g) f args::l,some x::pl,ps,fp,s,h=>by simp[Pg]at h
 |q+1,.call dst none (.tmp _) args::l,some x::pl,ps,fp,s,h=>by simp[Pg]at h
 |q+1,.call dst none (.const _) args::l,some x::pl,ps,fp,s,h=>by simp[Pg]at h
 |q+1,.call dst none (.global _) args::l,some x::pl,ps,fp,s,h=>by simp[Pg]at h
 |q+1,.call dst none (.meth _ _) args::l,some x::pl,ps,fp,s,h=>by simp[Pg]at h
 |q+1,.call dst (some g) f args::l,none::pl,ps,fp,s,h=>by simp[Pg]at h
 |q+1,.call dst none (.tmp _) args::l,none::pl,ps,fp,s,h=>by simp[Pg]at h
 |q+1,.call dst none (.const _) args::l,none::pl,ps,fp,s,h=>by simp[Pg]at h
 |q+1,.call dst none (.global _) args::l,none::pl,ps,fp,s,h=>by simp[Pg]at h
 |q+1,.call dst none (.meth _ _) args::l,none::pl,ps,fp,s,h=>by simp[Pg]at h
theorem T.ao(hm:P.follows .mixedOrders=true) {cuts:List Nat}{bs:List (List Nat)}{l:List RI}{K:Exit->St->Prop}{s:St}(ps:List (List Nat)) (pl:List (Option Nat)) (a:Et bs l q ps pl=true) (b:jz s.m pl=true) (h:Pg P pl ps q l (K .normal) [] s):T P N (.any cuts q bs l) K s:=
 T.anyO hm ps pl a b (uw h)
def yy:List (Option Nat)->List RI->Bool
 |none::pl,_::l=>yy pl l
 |some _::pl,.call ..::l=>yy pl l
 |[],_=>true
 |_,_=>false
theorem WE:∀{pl:List (Option Nat)}{l:List RI},yy pl l=true->∀i p,pO pl i=some p->∃a b c d,l[i]?=some (.call a b c d)
 |[],l,_,i,p,h=>by grind[pO]
 |none::pl,[],h,_,_,_=>by grind[yy]
 |some _::pl,[],h,_,_,_=>by grind[yy]
 |none::pl,y::l,h,0,p,h2=>by grind[pO]
 |none::pl,y::l,h,i+1,p,h2=>by
  simp only[yy]at h;simpa using WE h i p (by grind[pO])
 |some x::pl,.call a b c d::l,h,0,p,h2=>⟨a,b,c,d,rfl⟩
 |some x::pl,.call a b c d::l,h,i+1,p,h2=>by
  simp only[yy]at h;simpa using WE h i p (by grind[pO])
 |some x::pl,.op a b c::l,h,_,_,_=>by grind[yy]
theorem T.dp(hm:P.follows .mixedOrders=true) {l:List RI}{K:Exit->St->Prop}{s:St}(ps:List (List Nat)) (pl:List (Option Nat)) (c:ps=nw q) (a:yy pl l=true) (b:jz s.m pl=true) (h:Pg P pl ps q l (K .normal) [] s):T P N (.draw q l) K s:=by
 subst c;exact T.drawP hm (nw q) pl (WE a) tJ b (uw h)
end
section
variable {P:Program} {pl:List (Option Nat)} {ps:List (List Nat)} {q k t:Nat} {b:Bool} {dst:Option Tmp} {i:I} {l:List RI} {K:St->Prop} {fp:List (List Nat)} {s:St} {st:List D} {m:List Ent} {args:List Operand} {R:List (List Nat)->St->Prop} {p:List Nat} {z:D} {S:Nat} {x:Operand}
theorem yY:Pg P pl ps 0 l K fp s=Zg P l K s:=by simp only[Pg]
theorem n8:Pg P (some k::pl) ps (q+1) (.op dst none i::l) K fp s=RY (Pg P pl ps.tail q l K) fp (ps.headD []) k dst i s:=by simp only[Pg]
theorem do_op:Pg P (none::pl) ps (q+1) (.op dst none i::l) K fp s=qR (Pg P pl ps.tail q l K) fp (ps.headD []) dst i s:=by simp only[Pg]
theorem o8:Pg P (none::pl) ps (q+1) (.op dst (some (t,b)) i::l) K fp ⟨st,m⟩=gD (st.getD t .dead) b (qR (Pg P pl ps.tail q l K) fp (ps.headD []) dst i) ⟨st.set t (.v (.bool b)),m⟩ (skY (Pg P pl ps.tail q l K) fp (ps.headD []) dst i) ⟨st.set t (.v (.bool (!b))),m⟩ ⟨st,m⟩:=by simp only[Pg]
theorem xY:Pg P (none::pl) ps (q+1) (.call dst none (.func k) args::l) K fp s=sT P (Pg P pl ps.tail q l K) fp (ps.headD []) k dst args s:=by simp only[Pg]
theorem aU{x:Nat}:Pg P (some x::pl) ps (q+1) (.call dst none (.func k) args::l) K fp s=cwY P (Pg P pl ps.tail q l K) fp (ps.headD []) x k dst args s:=by simp only[Pg]
theorem cwY_q{R:List (List Nat)->St->Prop}{p:List Nat}{x:Nat}:cwY P R fp p x k dst args s=JB P k (args.map s.ev) (Mb s args) fp p x (λd e=>R (fp++[Mb s args]) (({ s with m:=s.m.set x e }:St).put dst d)) s:=paa rfl rfl
theorem J8:RY R fp p k dst i s=(gz fp [k] p=true/\match Am s k i with|some (d,e)=>R (fp++[[k]]) (({ s with m:=s.m.set k e }:St).put dst d)|none=>False):=paa rfl rfl
theorem vU:Am s k (.alloc S z)=(match s.m[k]? with|some (.live S' Na [])=>if S'=S then some (.ref k (Na+1) 0 0,.live S (Na+1) [z])else none|_=>none):=paa rfl rfl
theorem H8:Am s k (.box S x)=(match s.m[k]? with|some (.live S' Na [])=>if S'=S/\(s.ev x).ok=true/\Js S (s.ev x).cells=true then some (.ref k (Na+1) 0 0,.live S (Na+1) [s.ev x])else none|_=>none):=by simp only[Yp];rfl
theorem I8{n:Nat}{qs:List (Nat×Operand)}:Am s k (.bslice S n z qs)=(match s.m[k]? with|some (.live S' Na [])=>if S'=S then(wc s S qs (raa n z)).map λl=>(.own k (Na+1),.live S (Na+1) l)else none|_=>none):=paa rfl rfl
end
def zo:=(And.intro (And.intro (And.intro (And.intro @yY @n8) (And.intro @do_op @o8)) (And.intro (And.intro @xY @aU) (And.intro @cwY_q @J8))) (And.intro (And.intro @vU @H8) @I8))
theorem CP{G G':Gh}{w w':World}(b:SubF G w G' w') {d d':D}(hd:∀u,VRel G w d u->VRel G' w' d' u) {post:List D}(a:fa post=true) :
 ∀{pre:List D} {us:List Value},fa pre=true->VsRel G w (pre++d::post) us->VsRel G' w' (pre++d'::post) us
 |[],us,_,h=>by
  simp only[Vaa,VsRel]at h⊢;obtain⟨u,r,rfl,c,h2⟩:=h;exact⟨u,r,rfl,hd u c,VsRel.free b a h2⟩
 |p::pre,us,e,h=>by
  simp only[fa,Caa]at e;simp only[Iaa,VsRel]at h⊢;obtain⟨u,r,rfl,c,h2⟩:=h;exact⟨u,r,rfl,VRel.free b e.1 c,CP b hd a e.2 h2⟩
section
variable {P:Program}
end
variable {P:Program}
def u5(P:Program) (f:FuncId) (ds:List D) (m:List Ent) (R:D->List Ent->Prop):Prop:=
 Enters P f/\∀(G:Gh) (w:World) (vs:List Value),VsRel G w ds vs->Inv G w m->
  Calls P f vs.toArray w λe w'=>∃v d m' G',e=.returned v/\R d m'/\VRel G' w' d v/\Inv G' w' m'/\StepN 0 G w m G' w' m'
theorem jT{f:FuncId}{F:Fun}{ds:List D}{m:List Ent}{R:D->List Ent->Prop}(g:ou P f=some F) (hname:((P.funcs[f]?).map λfn=>fn.name == "runtime.NumGoroutine")=some false)
 (h:T P 0 F.code (Cy F.results R) ⟨ds++raa (F.ntmps-ds.length) .dead,m⟩):u5 P f ds m R:=by
 unfold ou at g;split at g
 .rename_i fn i;split at g
  .rename_i b r hb k;simp only[saa]at g;obtain⟨c,hc,rfl⟩:=g;refine⟨⟨fn,i,by simp_all,by simp_all⟩,λG w vs hv hi=>?_⟩;refine calls_of_wp i hb ?_;have j:=hv.length;have hr:Rel G w { tmps:=vs.toArray++Array.replicate (fn.ntmps-vs.toArray.size) undef,defers:=[] } ⟨ds++raa (fn.ntmps-ds.length) .dead,m⟩:=by
    refine⟨?_,hi,rfl⟩;simp only[Array.toList_append,Array.toList_replicate,List.size_toArray,j];exact hv.append (fJ _ _ _)
   refine Code.wp_mono ?_ (h b hc G w _ (sab _) hr);rintro e a' w' ⟨s',G',n,a,p⟩;have fin:(∃ds,Eb s' r=some ds/\R (yn ds) s'.m)->a'.defers=[]/\∃v,(results fn a'.tmps).run P w'=.ok v w'/\∃v_1 d m' G',Ending.returned v=.returned v_1/\R d m'/\VRel G' w' d v_1/\Inv G' w' m'/\StepN 0 G w m G' w' m':=by
    rintro⟨es,o,s⟩;obtain⟨v,l,q⟩:=tC (F:=⟨fn.ntmps,r,c⟩) k a o;exact⟨a.defers,v,l,v,_,_,G',rfl,s,q,a.inv,p⟩
   cases e with
   |normal=>exact fin n
   |ret=>exact fin n
   |_=>exact n.elim
  simp_all
 simp_all
theorem L8{k id S Na:Nat}{l:List D}{m:List Ent}{pre post:List D}{o:D}
 (q:m[id]?=some (.live S Na l)) (I:fa pre=true) (z:fa post=true) (hl:fa l=true)
 (h:u5 P k (pre++.own 0 0::post) [.live S 0 l] λd m'=>Sbs [] m' [d] [o]) :
 CallT P k (pre++.own id Na::post) m λd m'=>d=o/\m'=m.set id .gone:=by
 refine⟨h.1,λG w vs hv hi=>?_⟩;have hlen:id<m.length:=(iab.1 q).1;obtain⟨eV,eS,eN,eC,eB⟩:=hi.ent id _ q;have E:SubF G w ⟨G.F,1,λ_=>G.B id,λ_=>0,λ_=>G.S id,λ_=>G.N id,λ_=>G.C id⟩ w:=⟨λ_ h=>h,λ_ _=>rfl⟩;have U:=CP E (d:=.own id Na) (d':=.own 0 0) (λu hu=>by
  simp only[VRel]at hu⊢
  grind) z I hv
 have O:Inv ⟨G.F,1,λ_=>G.B id,λ_=>0,λ_=>G.S id,λ_=>G.N id,λ_=>G.C id⟩ w [.live S 0 l]:=by
  refine⟨rfl,hi.F,?_,?_,hi.gl.bare λ_ h=>h⟩
  .intro i e he
   cases i with
   |zero=>
    simp at he;subst he;refine⟨rfl,eS,eN,eC,?_⟩;rcases eB with h|⟨b,cs,T,g,h2,L,W,Z⟩
    .simp_all
    .exact .inr ⟨b,cs,T,g,h2,L,W,Qa.free E rfl hl Z⟩
   |succ i=>simp at he
  grind
 have c:∀b,df ⟨G.F,1,λ_=>G.B id,λ_=>0,λ_=>G.S id,λ_=>G.N id,λ_=>G.C id⟩ [.live S 0 l] b->G.B id=some b:=by
  rintro b ⟨i,e,he,-,J⟩;omega
 refine(h.2 _ w vs U O).mono ?_;rintro e w' ⟨v,d,m',G',rfl,X,hvd,t,a⟩;have live1:(Ent.live S Na l).isLive=true:=rfl;have Y:=(X.rel t (λi j v h=>by grind)).1 [v] (by simp only[VsRel];simp_all);simp only[VsRel]at Y;obtain⟨u,us,he,g,_⟩:=Y;injection he with he _;subst he;have s:=BF X;simp only[fa,Jaa]at s;have H:Le G w ⟨λb=>G'.F b\/df G' m' b,G.n,G.B,G.V,G.S,G.N,G.C⟩ w':=by
  refine⟨λb hb=>.inl (a.F b hb),λb hb=>a.heap b hb,Haa _,λi _=>.inl (by simp)⟩
 have A:∀i x,m[i]?=some x->x.isLive=true->∀b,G.B i=some b->b<w.heap.size/\¬G.F b:=λi x hx hl b hb=>(hi.ent i x hx).lt hl hb;have notO:∀i x,m[i]?=some x->x.isLive=true->i≠id->∀b,G.B i=some b->G.B id≠some b:=λi x hx f Q b hb J=>Q (hi.apart i id x _ hx q f live1 b hb J);have p:∀i x,(m.set id .gone)[i]?=some x->(m[i]?=some x/\i≠id)\/(i=id/\x=.gone):=by
  grind
 refine⟨v,o,_,⟨λb=>G'.F b\/df G' m' b,G.n,G.B,G.V,G.S,G.N,G.C⟩,rfl,⟨rfl,rfl⟩,?_,⟨by simp[hi.n],?_,?_,?_,t.gl.bare λ_ h=>.inl h⟩,⟨H,a.os,a.tape,a.output,a.size,?_,?_,?_⟩⟩
 .refine VRel.free (G:=pb G' m' []) ⟨?_,λ_ _=>rfl⟩ s g;rintro b (hb|⟨hb,_⟩)
  all_goals simp_all
 .rintro b (hb|hb)
  .exact t.F b hb
  .exact(df.lt t hb).1
 .intro i x hx;rcases p i x hx with⟨g,h2⟩|⟨rfl,rfl⟩
  .by_cases f:x.isLive=true
   .refine(hi.ent i x g).mono H (by simp) (λb hb=>?_) (λb hb _ r=>?_)
    .exact a.keep b (A i x g f b hb).1 λho=>notO i x g f h2 b hb (c b ho)
    .rcases r with r|r
     .rcases a.newF b (A i x g f b hb).1 r with h|h
      all_goals grind
     .exact(notO i x g f h2 b hb (c b (a.newB b (A i x g f b hb).1 r))).elim
   .cases x with
    |gone=>trivial
    |_=>grind[Ent.isLive]
  .trivial
 .intro i j x y hx hy K ly b hb M;rcases p i x hx with⟨g,h2⟩|⟨rfl,rfl⟩
  .rcases p j y hy with⟨L,W⟩|⟨rfl,rfl⟩
   .exact hi.apart i j x y g L K ly b hb M
   grind
  grind
 .intro b hb R;exact a.keep b hb λho=>R ⟨id,_,q,live1,c b ho⟩
 .intro b hb r;rcases r with r|r
  .rcases a.newF b hb r with h|h
   .simp_all
   .exact .inr ⟨id,_,q,live1,c b h⟩
  .exact .inr ⟨id,_,q,live1,c b (a.newB b hb r)⟩
 .rintro b hb ⟨i,x,hx,K,J⟩;rcases p i x hx with⟨g,h2⟩|⟨rfl,rfl⟩
  .exact⟨i,x,g,K,J⟩
  .cases K
def wD(P:Program) (k:Nat) (pre post:List D) (S:Nat) (l:List D) (o:D):Prop:=∀m id Na,m[id]?=some (.live S Na l)->CallT P k (pre++.own id Na::post) m λd m'=>d=o/\m'=m.set id .gone
def uS(P:Program) (k:Nat) (pre post:List D) (S:Nat) (l l':List D) (o:D):Prop:=∀m id Na,m[id]?=some (.live S Na l)->CallT P k (pre++.own id Na::post) m λd m'=>d=o/\m'=m.set id (.live S Na l')
theorem wD.at{k:Nat}{F:Fun}{pre post:List D}{S:Nat}{l:List D}{o:D}(n:Nat) (j:ou P k=some F) (b:((P.funcs[k]?).map λfn=>fn.name == "runtime.NumGoroutine")=some false)
 (f:fa pre=true) (c:fa post=true) (hl:fa l=true) (hn:F.ntmps=(pre++.own 0 0::post).length+n)
 (h:T P 0 F.code (jG F.results o) ⟨(pre++.own 0 0::post)++Tm.ds n [],[.live S 0 l]⟩):wD P k pre post S l o:=by
 intro m id Na hm;refine L8 hm f c hl (jT j b ?_);rw[hn,Nat.add_sub_cancel_left,←UA];refine T.tT (h.mono ?_);have key:∀(e:Exit) (s:St),(∀s',Cy F.results (λd m'=>Sbs [] m' [d] [o]) e s' = ∃ds,Eb s' F.results=some ds/\Sbs [] s'.m [yn ds] [o])->(∃S,Tells 0 s S/\∃ds,Eb S F.results=some ds/\Sbs [] S.m [yn ds] [o])->lJ 0 (Cy F.results λd m'=>Sbs [] m' [d] [o]) e s:=by
  intro e s he ⟨S,i,h2⟩ G w a hN hr;obtain⟨G',h3,h4⟩:=jq i hN hr
  grind
 intro e s g
 cases e with
 |normal=>exact key _ s (λ_=>rfl) g
 |ret=>exact key _ s (λ_=>rfl) g
 |_=>exact(g:False).elim
theorem jO{k id S Na:Nat}{pre post l ds:List D}{o:D}{m:List Ent}{f:D->List Ent->Prop}(h:wD P k pre post S l o) (a:ds=pre++.own id Na::post) (hm:m[id]?=some (.live S Na l)) (hf:f o (m.set id .gone)):Je P k ds m f:=by
 subst a;exact bc (h m id Na hm) hf
theorem qY{k id S Na:Nat}{pre post l l' ds:List D}{o:D}{m:List Ent}{f:D->List Ent->Prop}(h:uS P k pre post S l l' o) (a:ds=pre++.own id Na::post) (hm:m[id]?=some (.live S Na l)) (hf:f o (m.set id (.live S Na l'))):Je P k ds m f:=by
 subst a;exact bc (h m id Na hm) hf
theorem VG{k:Nat}{vs:List Value}{v:Value}(a:Enters P k) (h:∀w,Calls P k vs.toArray w λe w'=>e=.returned v/\w'=w):Den P k (vs.map .v) (.v v):=by
 refine λm=>⟨a,λG w us hv hi=>?_⟩;have:∀(vs us:List Value),VsRel G w (vs.map .v) us->us=vs:=by
  intro vs
  induction vs with
  |nil=>intro us h;simpa [VsRel] using h
  |cons x l ih=>
   intro us h;simp only[Gaa,VsRel,VRel]at h
   grind
 obtain rfl:=this vs us hv;refine(h w).mono ?_;rintro e w' ⟨rfl,rfl⟩;exact⟨_,_,_,G,rfl,⟨rfl,rfl⟩,by simp[VRel],hi,Step.refl _ _ _⟩
open Go.Sort
variable {P:Program}
def eI(n:Int):D:=.v (.int .i64 n)
theorem uF{G:Gh}{w:World}{b:Nat}:∀{zs:List Int}{off:Nat},Qa G w b 1 (zs.map eI) off->∀j (h:j<zs.length),w.cell? ⟨b,off+j,none⟩=some (.int .i64 zs[j])
 |[],_,_,j,h=>absurd h (Yad j)
 |z::zs,off,hr,j,h=>by
  simp only[Gaa,Qa]at hr;obtain⟨⟨u,a,h2,c⟩,d⟩:=hr;simp only[eI,VRel]at a;subst a
  cases j with
  |zero=>exact(c 0 (.int .i64 z) rfl).2
  |succ j=>
   have:=uF d j (by simp_all)
   grind
theorem xN{G:Gh}{w:World}{b:Nat}:∀{zs:List Int}{off:Nat},(∀j (h:j<zs.length),w.cell? ⟨b,off+j,none⟩=some (.int .i64 zs[j]))->Qa G w b 1 (zs.map eI) off
 |[],_,_=>by simp[Qa]
 |z::zs,off,hr=>by
  simp only[Gaa,Qa];refine⟨⟨.int .i64 z,by simp[eI,VRel],rfl,?_⟩,xN λj h=>?_⟩
  .intro j c hc
   cases j with
   |zero=>
    have:c=.int .i64 z:=by grind[Value.cells]
    subst this;exact⟨rfl,hr 0 (vae _)⟩
   |succ j=>grind[Value.cells]
  .have:=hr (j+1) (by simp_all)
   grind
theorem holds_of{w:World}{b off:Nat}{cs:Array Value}{T:TypeId}{zs:List Int}(hb:w.heap[b]?=some (.cells cs T (0,0))) (h:∀j (h:j<zs.length),w.cell? ⟨b,off+j,none⟩=some (.int .i64 zs[j])):Holds (Value.int .i64) w b off zs.toArray:=by
 intro j hj
 grind[World.frozen?]
theorem jP{w:World}{b off:Nat}{cs:Array Value}{T:TypeId}{ys:List Int}{n:Nat}{os:Array Obj}(hb:w.heap[b]?=some (.cells cs T (0,0))) (hlen:off+ys.length<=cs.size) {w':World}(hw:w'=grow (putRow (Value.int .i64) (Sort.ahead w n) b off ys.toArray) os) :
 w'.os=w.os/\w'.tape=w.tape/\w'.output=w.output/\w.heap.size<=w'.heap.size/\(∀k,k<w.heap.size->k≠b->w'.heap[k]?=w.heap[k]?)/\
  w'.heap[b]?=some (.cells (putCells (Value.int .i64) off ys.toArray cs) T (0,0))/\∀j (h:j<ys.length),w'.cell? ⟨b,off+j,none⟩=some (.int .i64 ys[j]):=by
 subst hw;have hbs:b<w.heap.size:=by
  grind
 have a:(grow (putRow (Value.int .i64) (Sort.ahead w n) b off ys.toArray) os).heap=w.heap.modify b (onCells (putCells (Value.int .i64) off ys.toArray))++os:=rfl;have c:(grow (putRow (Value.int .i64) (Sort.ahead w n) b off ys.toArray) os).heap[b]?=some (.cells (putCells (Value.int .i64) off ys.toArray cs) T (0,0)):=by
  rw[a,Array.getElem?_append_left (by simp_all),Array.getElem?_modify,if_pos rfl,hb];rfl
 refine⟨rfl,rfl,rfl,?_,?_,c,?_⟩
 all_goals grind[World.cell?,putCells]
theorem YL{k:FuncId}(s:Enters P k) {id Na:Nat}{m:List Ent}{zs ys:List Int}(hm:m[id]?=some (.live 1 Na (zs.map eI))) (hlen:ys.length=zs.length)
 (p:∀w b off cap,Holds (Value.int .i64) w b off zs.toArray->b<w.heap.size->Calls P k #[.slice (some ⟨b,off,none⟩) zs.length cap] w λe w'=>e=.returned (.tuple #[])/\∃n os,w'=grow (putRow (Value.int .i64) (Sort.ahead w n) b off ys.toArray) os)
 (o:∀w cap,Calls P k #[.slice none 0 cap] w λe w'=>e=.returned (.tuple #[])/\w'=w) :
 CallT P k [.own id Na] m λd m'=>d=.tup []/\m'=m.set id (.live 1 Na (ys.map eI)):=by
 refine⟨s,λG w vs hv hi=>?_⟩;obtain⟨eV,eS,eN,eC,eB⟩:=hi.ent id _ hm;simp only[VsRel,VRel]at hv;obtain⟨u,r,rfl,⟨a,n,c,rfl,g1,g2,g3⟩,rfl⟩:=hv;obtain⟨rfl,rfl,rfl⟩:=g3 eV;simp only[lab]at eN eC;rcases eB with⟨f,q⟩|⟨b,cs,T,f,t,hb,hc,hr⟩
 .have g:=congrArg pae q;dsimp only at g;have x:zs=[]:=Qaa (by omega);have v:ys=[]:=Qaa (by omega);subst x v;rw[f,eN];refine(o w _).mono ?_;rintro e w' ⟨rfl,rfl⟩;refine⟨_,_,_,G,rfl,⟨rfl,rfl⟩,by simp[VRel,VsRel],?_,?_⟩
  .have:m.set id (.live 1 Na (([]:List Int).map eI))=m:=by
    apply cac
    grind
   simp_all
  .have:m.set id (.live 1 Na (([]:List Int).map eI))=m:=by
    apply cac
    grind
   grind[Step.refl]
 .rw[f,eN];have i:b<w.heap.size:=by
   grind
  refine(p w b _ _ (holds_of hb (uF hr)) i).mono ?_;rintro e w' ⟨rfl,n,os,hw⟩;obtain⟨y,z,A,D,E,F,p7⟩:=jP hb (by omega) hw;have l:=Wf (w':=w') hi hm rfl (e':=.live 1 Na (ys.map eI)) rfl (G.B id) Na (G.N id) (G.C id) (.inr ⟨eV.symm,rfl,rfl,rfl⟩) y z A D
   (λk hk j=>E k hk (λh=>j (by rw[f,h]))) (λk hk=>.inl hk) (by
    refine⟨by simp[Gh.Cf],by grind[Gh.Cf],by grind[Gh.Cf],by grind[Gh.Cf],.inr ⟨b,_,T,by grind[Gh.Cf],t,F,?_,xN (by grind[Gh.Cf])⟩⟩
    grind[Gh.Cf,putCells])
  exact⟨_,_,_,_,rfl,⟨rfl,rfl⟩,by simp[VRel,VsRel],l.1,l.2⟩
theorem XL{k:FuncId}(s:Enters P k) {id Na:Nat}{m:List Ent}{zs ys:List Int}(hm:m[id]?=some (.live 1 Na (zs.map eI))) (hlen:ys.length<=zs.length)
 (p:∀w b off cap,Holds (Value.int .i64) w b off zs.toArray->zs.length<=cap->Calls P k #[.slice (some ⟨b,off,none⟩) zs.length cap] w λe w'=>e=.returned (.slice (some ⟨b,off,none⟩) ys.length cap)/\∃n xs,xs.length+ys.length=zs.length/\w'=grow (putRow (Value.int .i64) (Sort.ahead w n) b off (ys++xs).toArray) #[])
 (o:∀w cap,Calls P k #[.slice none 0 cap] w λe w'=>e=.returned (.slice none 0 cap)/\w'=w) :
 CallT P k [.own id Na] m λd m'=>d=.own id (Na+1)/\m'=m.set id (.live 1 (Na+1) (ys.map eI)):=by
 refine⟨s,λG w vs hv hi=>?_⟩;obtain⟨eV,eS,eN,eC,eB⟩:=hi.ent id _ hm;simp only[VsRel,VRel]at hv;obtain⟨u,r,rfl,⟨a,n,c,rfl,g1,g2,g3⟩,rfl⟩:=hv;obtain⟨rfl,rfl,rfl⟩:=g3 eV;simp only[lab]at eN eC;rcases eB with⟨i,q⟩|⟨b,cs,T,i,t,hb,hc,hr⟩
 .have l:=congrArg pae q;dsimp only at l;have x:zs=[]:=Qaa (by omega);have v:ys=[]:=Qaa (by omega);subst x v;rw[i,eN];refine(o w _).mono ?_;rintro e w' ⟨rfl,rfl⟩;have f:=Wf (w':=w') hi hm rfl (e':=.live 1 (Na+1) (([]:List Int).map eI)) rfl none (Na+1) 0 (G.C id) (.inl (by omega)) rfl rfl rfl (Haa _)
   (λk hk g=>rfl) (λk hk=>by grind) (by
    refine⟨by simp[Gh.Cf],by grind[Gh.Cf],by simp[Gh.Cf],by simp,.inl ⟨by simp[Gh.Cf],by grind[Gh.Cf]⟩⟩)
  refine⟨_,_,_,_,rfl,⟨rfl,rfl⟩,?_,f.1,f.2⟩;simp only[VRel];exact⟨_,_,_,rfl,g1,by simp[Gh.Cf],λ_=>by simp[Gh.Cf]⟩
 .rw[i,eN];refine(p w b _ _ (holds_of hb (uF hr)) eC).mono ?_;rintro e w' ⟨rfl,n,xs,hx,hw⟩;obtain⟨y,z,A,D,E,F,p7⟩:=jP hb (by grind) hw;have f:=Wf (w':=w') hi hm rfl (e':=.live 1 (Na+1) (ys.map eI)) rfl (G.B id) (Na+1) ys.length (G.C id) (.inl (by omega)) y z A D
   (λk hk g=>E k hk (λh=>g (by rw[i,h]))) (λk hk=>.inl hk) (by
    refine⟨by simp[Gh.Cf],by grind[Gh.Cf],by simp[Gh.Cf],by grind[Gh.Cf],.inr ⟨b,_,T,by grind[Gh.Cf],t,F,?_,xN λj h=>?_⟩⟩
    all_goals grind[Gh.Cf,putCells])
  refine⟨_,_,_,_,rfl,⟨rfl,rfl⟩,?_,f.1,f.2⟩;simp only[VRel];exact⟨_,_,_,rfl,g1,by simp[Gh.Cf],λ_=>by grind[Gh.Cf]⟩
theorem WT{k:FuncId}(f:Enters P k) {zs ys:List Int}(a:ys.length=zs.length)
 (d:∀w b off cap,Holds (Value.int .i64) w b off zs.toArray->b<w.heap.size->Calls P k #[.slice (some ⟨b,off,none⟩) zs.length cap] w λe w'=>e=.returned (.tuple #[])/\∃n os,w'=grow (putRow (Value.int .i64) (Sort.ahead w n) b off ys.toArray) os)
 (c:∀w cap,Calls P k #[.slice none 0 cap] w λe w'=>e=.returned (.tuple #[])/\w'=w):uS P k [] [] 1 (zs.map eI) (ys.map eI) (.tup []):=
 λm id Na hm=>YL f hm a d c
variable {P:Program} {N:Nat}
theorem VsRel.swap{G:Gh}{w:World}{l:List D}{us:List Value}{i:Nat}{d:D}{u:Value}(h:VsRel G w l us) (hu:us.getD i undef=u) (hi:i<l.length) (hd:VRel G w d u):VsRel G w (l.set i d) us:=by
 have:=h.set hd i;have hlen:=h.length;have he:us.set i u=us:=by
  apply cac
  grind
 simp_all
theorem T.Bo{i j d S:Nat}{l:List D}{neg:Bool}{s:St}{K:Exit->St->Prop}(A:s.t[i]?=some (.sl S l)) (hl:fa l=true) (hj:j<s.t.length) (hij:i≠j) (hjd:j≠d) (hid:i≠d)
 (h:∀b,(l≠[]->b=neg)->K .normal ⟨(s.t.set j (.sl S l)).set d (.v (.bool b)),s.m⟩) :
 T P N (.UI [.op (some j) none (.mv (.tmp i)),.op (some d) none (.Bo neg (.tmp j))]) K s:=by
 intro code hc G w a hN hr;have hi:i<s.t.length:=(iab.1 A).1;obtain⟨u,hu,hv⟩:=hr.t.getElem A;have q:=hv;simp only[VRel]at q;obtain⟨p,n,c,rfl,hn,hnc,z⟩:=q;have x:a.tmps.toList.getD i undef=.slice p n c:=by simp_all
 have y:Rel G w a ⟨s.t.set i (.v (.slice p n c)),s.m⟩:=⟨hr.t.swap x hi (by simp[VRel]),hr.inv,hr.defers⟩;have E:T P N (.UI [.op (some j) none (.mv (.tmp i)),.op (some d) none (.Bo neg (.tmp j))]) (λe s'=>e=.normal/\s'=⟨((s.t.set i (.v (.slice p n c))).set j (.v (.slice p n c))).set d (.v (.bool (p.isNone !=neg))),s.m⟩) ⟨s.t.set i (.v (.slice p n c)),s.m⟩:=by
  refine T.UI ?_;have B:((s.t.set i (.v (.slice p n c))).getD i .dead)=.v (.slice p n c):=by simp_all
  have C:((s.t.set i (.v (.slice p n c))).set j (.v (.slice p n c))).getD j .dead=.v (.slice p n c):=by
   simp_all
  simp only[Wi,gate,ea,St.ev,B,C,St.put,aab,Paa,exists_and_left,exists_eq_left',and_assoc,true_and]
 refine Code.wp_mono ?_ (E code hc G w a hN y);rintro e a' w' ⟨s',G',⟨rfl,rfl⟩,h2,r⟩;have o:VRel G' w' (.sl S l) (.slice p n c):=VRel.free ⟨r.F,r.heap⟩ (by grind[la]) hv;refine⟨⟨(s.t.set j (.sl S l)).set d (.v (.bool (p.isNone !=neg))),s.m⟩,G',h _ ?_,⟨?_,h2.inv,h2.defers⟩,r⟩
 .intro hne;rcases z with z|⟨b,off,rfl,-⟩
  all_goals simp_all
 .have f:=h2.t;have g:∀k,(((s.t.set i (.v (.slice p n c))).set j (.v (.slice p n c))).set d (.v (.bool (p.isNone !=neg))))[k]?=some (.v (.slice p n c))->a'.tmps.toList.getD k undef=.slice p n c:=by
   intro k hk;obtain⟨u,h1,h2⟩:=f.getElem hk;simp only[VRel]at h2
   simp_all
  have gi:=g i (by grind);have gj:=g j (by grind);have H:=f.swap gi (by simp_all) o;have k2:=H.swap gj (by simp_all) o;have:((((s.t.set i (.v (.slice p n c))).set j (.v (.slice p n c))).set d (.v (.bool (p.isNone !=neg)))).set i (.sl S l)).set j (.sl S l)=(s.t.set j (.sl S l)).set d (.v (.bool (p.isNone !=neg))):=by
   apply cac
   grind
  simp_all
theorem N3{ρ:Yl}{m:List Ent}{n:Nat}{d:D}(h:la d=true):Sq ρ m (n+1) d d:=by
 cases d with
 |v x=>exact rfl
 |agg a=>exact .inl ⟨rfl,by grind[la]⟩
 |tup a=>exact .inl ⟨rfl,by grind[la]⟩
 |sl S a=>exact⟨rfl,.inl ⟨rfl,by grind[la]⟩⟩
 |pt d=>exact .inl ⟨rfl,by grind[la]⟩
 |fn f a c=>
  simp only[la,Caa]at h;exact⟨rfl,.inl ⟨rfl,h.1⟩,.inl ⟨rfl,h.2⟩⟩
 |dead=>exact trivial
 |ifc t d=>exact⟨rfl,.inl ⟨rfl,by grind[la]⟩⟩
 |own=>grind[la]
 |ref=>grind[la]
 |view=>grind[la]
 |mp=>grind[la]
def U7(E:List (Nat×List Nat)) (P:Program) (ops:Array Oper) (o:Oper) (op:Op):Option I:=
 match op with
 |.binOp b t x y _=>
  match E.lookup t with
  |some ks=>some (.ceq (decide (b=.neq)) ks x y)
  |none=>Mp P ops o op
 |_=>Mp P ops o op
def uY(E:List (Nat×List Nat)) (P:Program) (ops:Array Oper) (o:Oper):Option RI:=
 match guardOf ops o.guard with
 |none=>none
 |some g=>
  match YH P o.op with
  |some (f,args)=>some (.call o.dst g f args)
  |none=>(U7 E P ops o o.op).map λi=>.op o.dst g i
def SD(E:List (Nat×List Nat)) (P:Program) (ops:Array Oper):List Oper->Option (List RI)
 |[]=>some []
 |o::l=>
  match uY E P ops o,SD E P ops l with
  |some r,some rs=>some (r::rs)
  |_,_=>none
def sy(E:List (Nat×List Nat)) (P:Program):Code->Option C
 |.skip=>some .skip
 |.region _ ops false=>(SD E P ops ops.toList).map .UI
 |.region _ ops true=>
  match SD E P ops ops.toList with
  |some rl=>
   if TA (Bb ops) rl (CX (Bb ops) rl.length)=true then some (.draw (CX (Bb ops) rl.length) rl)
   else some (.any (jM (Bb ops) rl.length (CX (Bb ops) rl.length)) (CX (Bb ops) rl.length) (Bb ops) rl)
  |none=>none
 |.seq a b=>
  match sy E P a,sy E P b with
  |some x,some y=>some (.seq x y)
  |_,_=>none
 |.cond c a b=>
  match sy E P a,sy E P b with
  |some x,some y=>some (.cond c x y)
  |_,_=>none
 |.block id a=>(sy E P a).map (.block id)
 |.loop a=>(sy E P a).map .loop
 |.exit id=>some (.exit id)
 |.ret=>some .ret
 |.label _=>some .skip
 |.rangeFunc ..=>some .stuck
 |_=>none
def T7(E:List (Nat×List Nat)) (P:Program) (f:FuncId):Option Fun:=
 match P.funcs[f]? with
 |some fn=>
  match fn.body,dv P fn.results.toList with
  |some b,some r=>(sy E P b).map λc=>⟨fn.ntmps,r,c⟩
  |_,_=>none
 |none=>none
theorem u8l{n:Nat}{h:n<2 ^ 8}:(⟨⟨⟨n,h⟩⟩⟩:UInt8)=UInt8.ofNat n:=by
 apply UInt8.toBitVec_inj.1;simp only[BitVec.ofFin_eq_ofNat];rfl
theorem arl{l:List UInt8}:(⟨l⟩:Array UInt8)=l.toArray:=rfl
structure Kf (P:Program) (n:Nat) where
 F:Fun
 ok:ou P n=some F
 nm:((P.funcs[n]?).map λfn=>fn.name == "runtime.NumGoroutine")=some false
theorem Kf.o{P:Program}{n:Nat}(K:Kf P n):ou P n=some K.F/\((P.funcs[n]?).map λfn=>fn.name == "runtime.NumGoroutine")=some false:=⟨K.ok,K.nm⟩
abbrev Kf.of(E:List (Nat×List Nat)) {P:Program}{n:Nat}{F:Fun}(_:T7 E P n=some F:=by conv=>lhs;reduce;try simp only[Int.reduceOfNat,Int.reduceNegSucc,u8l,arl,UInt8.reduceOfNat]) (ok:ou P n=some F:=by kernel_rfl) (nm:((P.funcs[n]?).map λfn=>fn.name == "runtime.NumGoroutine")=some false:=by kernel_rfl):Kf P n:=⟨F,ok,nm⟩
theorem ss:type_of% @T.Tj:=@T.Tj
theorem rg:type_of% @T.rg:=@T.rg
theorem sr:type_of% @T.sr:=@T.sr
theorem cd:type_of% @T.cd:=@T.cd
theorem bk:type_of% @T.bk:=@T.bk
theorem sk:type_of% @T.skip:=@T.skip
theorem xt:type_of% @T.exit:=@T.exit
theorem ay:type_of% @T.ay:=@T.ay
theorem dy:type_of% @T.dy:=@T.dy
theorem ao:type_of% @T.ao:=@T.ao
theorem tl:type_of% @T.LF:=@T.LF
theorem cq:type_of% @XC:=@XC
theorem lq:type_of% @XH:=@XH
theorem bs:type_of% @qi:=@qi
theorem lc:type_of% @T.cV:=@T.cV
theorem tj:type_of% @T.join:=@T.join
theorem lv:type_of% @MD:=@MD
theorem cv:type_of% @OD:=@OD
section
variable {P:Program} {N:Nat}
theorem jn{X:Type}{a b:C}{K:Exit->St->Prop}{s:St} [StbC N K] (S:X->St) {o:Option X}{β:Type}{f:X->Option β}{r:β}(h:o.bind f=some r) (ha:∀z,o=some z->Tm.T P N a (KJ N K S (.inl z:X⊕Unit)) s) (hb:∀z,o=some z->f z=some r->Tm.T P N b K (S z)):Tm.T P N (.seq a b) K s:=by
 obtain⟨z,c,h2⟩:=qi h;refine T.join (R:=Unit) S (.inl z) (ha z c) ?_;rintro _ ⟨⟩;exact hb z c h2
theorem gi{p q Y N:Prop} [Decidable q] {α:Type}{A B:Option α}{r:α}(h:(if q then A else B)=some r) (b:q->A=some r->Y) (h2:¬q->B=some r->N) (a:p=q:=by rfl):gP p Y N:=gP.ite h (iff_of_eq a) b h2
theorem rt:type_of% @T.ret:=@T.ret
theorem er:type_of% @qo:=@qo
end
theorem eT{α:Type} [BEq α] [LawfulBEq α] {a b:α}(h:a=b):(a==b)=true:=beq_iff_eq.2 h
theorem eF{α:Type} [BEq α] [LawfulBEq α] {a b:α}(h:¬a=b):(a==b)=false:=beq_eq_false_iff_ne.2 h
theorem eD{α:Type} [BEq α] [LawfulBEq α] {a b:α}(h:¬ ¬a=b):(a==b)=true:=beq_iff_eq.2 (waa.1 h)
theorem nT{α:Type} [BEq α] [LawfulBEq α] {a b:α}(h:¬a=b):(a !=b)=true:=bne_iff_ne.2 h
theorem nF{α:Type} [BEq α] [LawfulBEq α] {a b:α}(h:a=b):(a !=b)=false:=by simpa using h
theorem nD{α:Type} [BEq α] [LawfulBEq α] {a b:α}(h:¬ ¬a=b):(a !=b)=false:=nF (waa.1 h)
theorem bI{α β:Type}{l:List α}{i:Int}{g:α->Option β}{r:β}(h:(idx l i).bind g=some r):∃x,0<=i/\l[i.toNat]?=some x/\g x=some r:=by
 obtain⟨x,a,h2⟩:=qi h;obtain⟨b,c⟩:=idx_f a;exact⟨x,b,c,h2⟩
theorem bO{α β:Type}{l:List α}{i:Int}{g:α->Option β}{r:β}(h:(idx l i).bind g=some r):∃x,0<=i/\l[i.toNat]?=some x/\i.toNat<l.length/\g x=some r:=by
 obtain⟨x,a,h2⟩:=qi h;obtain⟨b,c,d⟩:=idx_o a;exact⟨x,b,c,d,h2⟩
section
variable {P:Program} {N:Nat}
theorem jm{X:Type}{a b:C}{K:Exit->St->Prop}{s:St} [StbC N K] {o:Option X}{β:Type}{f:X->Option β}{r:β}(h:o.bind f=some r) (S:X->St) (ha:∀z,o=some z->Tm.T P N a (KJ N K S (.inl z:X⊕Unit)) s) (hb:∀z,o=some z->f z=some r->Tm.T P N b K (S z)):Tm.T P N (.seq a b) K s:=jn S h ha hb
theorem lm{σ β ρ:Type}{id:Nat}{K:Exit->St->Prop} [hst:StbC N K] {x:C}{s:St}{step:σ->Option (Ex σ β ρ)}{x0:σ}{y:β⊕ρ}(d:Tm.ja step x0=some y) (S:σ->St) (B:β->St) (c:Tells N s (S x0))
 (round:∀a z,step a=some z->(∀v,z=.ret v->y=.inr v)->Tm.T P N x (KL N id K S B z) (S a))
 (rest:∀b,y=.inl b->K .normal (B b)):Tm.T P N (.block id (.loop x)) K s:=T.cV S B step x0 d c round rest
end
abbrev ok(i:Nat):Option Nat×Nat×Nat:=(some i,0,0)
abbrev ov(i v:Nat):Option Nat×Nat×Nat:=(some i,v,0)
abbrev on(S:Nat):Option Nat×Nat×Nat:=(none,S,0)
theorem tq{N:Nat}(ρ:Yl) {s S:St}(h:dz (Sq ρ s.m 9) s.t S.t/\HB ρ s.m ρ S.m) (hk:Hw ρ N=true:=by rfl) (a:(ρ.filterMap (·.1)).Nodup:=by decide):Tells N s S:=Tells.q ρ hk a h
theorem fq:type_of% @WB:=@WB
theorem zr:type_of% (And.intro (And.intro @gn @Af) (And.intro @Bf @Sd)):=And.intro (And.intro @gn @Af) (And.intro @Bf @Sd)
class FrL (l:List D):Prop where
 h:fa l=true
instance:FrL []:=⟨rfl⟩
instance {α:Type}{e:α->D} [Fr e] {x:α}{l:List D} [FrL l]:FrL (e x::l):=⟨DC FrL.h⟩
theorem dk{P:Program}{k:Nat}{l:List D}{o:D}(n:Nat) (K:Kf P k) (h:T P 0 K.F.code (jG K.F.results o) ⟨l++Tm.ds n [],[]⟩) (hf:fa l=true:=by exact FrL.h) (hn:K.F.ntmps=l.length+n:=by rfl):Den P k l o:=Den.at n K.ok K.nm hf hn h
end Go.Tm
