/-
  The engine: a part of the proof that trees of values are carried along by the program: no condition.
-/
import Derived.Test.YtjjfnbpfgfopbaaGreatDoorEB
import Derived.ProofKit
import Derived.OpenShut
import Derived.WideShapes
import Derived.Lib.LaidTab
import Derived.SizedLaws
import Derived.Sort.Row
import Derived.Sort.Grow
import Derived.KernelRfl
open Bool renaming and_eq_true->zaa,and_true->sac,true_and->tac
open Classical renaming not_not->saa
open Eq renaming trans->maa
open List renaming all_cons->Kab,all_eq_true->Xaa,append_nil->Taa,cons_append->Gaa,contains_iff_mem->bab,drop_drop->Oad,drop_zero->kad,eq_nil_of_length_eq_zero->Laa,ext_getElem?->kac,foldlM->gaf,getElem?_cons_succ->Rab,getElem?_cons_zero->Yaa,getElem?_eq_getElem->naa,getElem?_eq_some_iff->fab,getElem_mem->taa,length_cons->qaa,length_map->Waa,length_nil->Aaa,map_cons->vaa,map_nil->gab,mem_append->Saa,mem_cons->lab,mem_map_of_mem->wae,nil_append->Qaa,replicate->oaa,replicate_zero->mad,take_length->aab,take_of_length_le->Bac
open Nat renaming le_refl->Haa,lt_succ_self->eae,not_lt_zero->mae,sub_zero->Ead,zero_add->Jab,zero_le->qab,zero_lt_succ->Mae
open Option renaming bind_eq_some_iff->jac,map_eq_some_iff->paa,map_some->zac
open Option.some renaming inj->Iaa,injEq->Vaa
open Prod renaming fst->Gae
open Prod.mk renaming injEq->Naa
set_option linter.all false
namespace Go.Tm
variable {k i id j off lo hi u Ma:Nat}{R f:D->List Ent->Prop}{d dst:Option Tmp}{r t ds' pre post:List D}{Y p:Prop}{g:Option (Tmp×Bool)}{c b a x:Operand}{m' es:List Ent}{X:Type}{w w':World}{cs:Array Value}{G:Gh}{vs:List Value}{rs:List RV}{F:Fun}{z:Value}{s1 s2 s0:St}{ys:List Int}{cuts ids:List Nat}
inductive W where
 |c (c:C)
 |l (l:List RI)
 |an (q:Nat) (bs:List (List Nat)) (l:List RI)
 |yo (pl:List (Option Nat)) (ps fp:List (List Nat)) (q:Nat) (l:List RI)
 |f (k:Nat) (ds:List D)
 |p (k:Nat) (ds:List D)
 |q (k:Nat) (ds:List D)
 |w (p k:Nat) (ds:List D)
section
variable {P:Program} {FT:Nat->Option (Fun×Nat)} {O:Nat->List D->Option D}
end
variable {α:Type}
noncomputable section
def MC(k:IntKind):Int:=
 match k with
 |.i8=>256|.i16=>65536|.i32=>4294967296|.i64=>18446744073709551616
 |.u8=>256|.u16=>65536|.u32=>4294967296|.u64=>18446744073709551616
theorem GS(k:IntKind):MC k=2 ^ k.bits:=by cases k<;>rfl
def VD(n h m:Int):Int:=bif decide (n % m>=h)then n % m-m else n % m
def aa(k:IntKind) (n:Int):Int:=
 match k with
 |.i8=>VD n 128 256
 |.i16=>VD n 32768 65536
 |.i32=>VD n 2147483648 4294967296
 |.i64=>VD n 9223372036854775808 18446744073709551616
 |.u8=>n % 256
 |.u16=>n % 65536
 |.u32=>n % 4294967296
 |.u64=>n % 18446744073709551616
theorem mw(k:IntKind) (n:Int):aa k n=k.wrap n:=by
 cases k<;>simp[aa,VD,IntKind.wrap,IntKind.bits,IntKind.signed,cond_eq_ite]
def mC(op:Nat->Nat->Nat) (k:IntKind) (x y:Int):Value:=.int k (aa k (op (x % MC k).toNat (y % MC k).toNat:Nat))
theorem QV(k:IntKind) (x:Int):(BitVec.ofInt k.bits x).toNat=(x % MC k).toNat:=by
 rw[BitVec.toNat_ofInt,GS];norm_cast
def Qg(op:BinOp) (j:IntKind) (a:Int) (k:IntKind) (b:Int):Option Value:=
 match op with
 |.add=>bif decide (j=k)then some (.int j (aa j (a+b)))else none
 |.sub=>bif decide (j=k)then some (.int j (aa j (a-b)))else none
 |.mul=>bif decide (j=k)then some (.int j (aa j (a*b)))else none
 |.eql=>bif decide (j=k)then some (.bool (a==b))else none
 |.neq=>bif decide (j=k)then some (.bool (a !=b))else none
 |.lss=>bif decide (j=k)then some (.bool (decide (a<b)))else none
 |.leq=>bif decide (j=k)then some (.bool (decide (a<=b)))else none
 |.gtr=>bif decide (j=k)then some (.bool (decide (b<a)))else none
 |.geq=>bif decide (j=k)then some (.bool (decide (b<=a)))else none
 |.and=>bif decide (j=k)then some (mC Nat.land j a b)else none
 |.or=>bif decide (j=k)then some (mC Nat.lor j a b)else none
 |.xor=>bif decide (j=k)then some (mC Nat.xor j a b)else none
 |.quo=>bif decide (j=k)&&!decide (b=0)then some (.int j (aa j (a.tdiv b)))else none
 |.rem=>bif decide (j=k)&&!decide (b=0)then some (.int j (a.tmod b))else none
 |.shl=>bif decide (b<0)then none else some (.int j (aa j (a*((2 ^ (min b.toNat j.bits):Nat):Int))))
 |.shr=>bif decide (b<0)then none else some (.int j (a.fdiv ((2 ^ (min b.toNat j.bits):Nat):Int)))
 |op=>Kg (binOp op 0 (.int j a) (.int k b))
theorem p8(op:BinOp) (j:IntKind) (a:Int) (k:IntKind) (b:Int):Qg op j a k b=Kg (binOp op 0 (.int j a) (.int k b)):=by
 have c:∀{α:Type} (x:String),Kg (stuck x:Sem α)=none:=λ_=>rfl;have f:∀{α:Type} (x:α),Kg (pure x:Sem α)=some x:=λ_=>rfl;have d:∀{α:Type} x,Kg (runtimePanic x:Sem α)=none:=λ_=>rfl;cases op
 case shl=>
  simp only[Qg,binOp,Op.shift,cond_eq_ite,decide_eq_true_eq];split<;>simp[c,f,d,mw]
 case shr=>
  simp only[Qg,binOp,Op.shift,cond_eq_ite,decide_eq_true_eq];split<;>simp[c,f,d]
 all_goals
  by_cases e:j=k
  .subst e;simp[Qg,binOp,Op.intArith,Op.intCmp,Op.intBits,Op.intDiv,c,f,d,mw,mC,QV,GS];(try rfl);(try (split<;>simp[c,f,d,mw, *]))
  .simp[Qg,binOp,e,c]
section
variable {FT:Nat->Option (Fun×Nat)} {O:Nat->List D->Option D}
variable {P:Program}
end
end
variable {P:Program} {N:Nat}
def Pp(r:Option (D×List Ent)) (f:D->List Ent->Prop):Prop:=
 match r with
 |some p=>f p.1 p.2
 |none=>False
@[congr] theorem andT_congr{r a:Option (D×List Ent)} {f:D->List Ent->Prop} (h:r=a):Pp r f=Pp a f:=by rw[h]
theorem ZT(d:D) (m:List Ent) (f:D->List Ent->Prop):Pp (some (d,m)) f=f d m:=maa rfl rfl
theorem Dl(r:Option (D×List Ent)) (f:D->List Ent->Prop):Pp r f↔∃d m',r=some (d,m')/\f d m':=by
 cases r with
 |none=>simp[Pp]
 |some p=>
  obtain⟨d,m⟩:=p;simp only[Pp]
  grind
def Ye(P:Program) (k:Nat) (ds:List D) (m:List Ent) (f:D->List Ent->Prop):Prop:=CallT P k ds m f
@[congr] theorem callX_congr{k a:Nat} {ds ds':List D} {m m':List Ent} {f:D->List Ent->Prop} (h1:k=a) (h2:ds=ds') (h3:m=m'):Ye P k ds m f=Ye P a ds' m' f:=by simp_all
theorem Gv{ds:List D}{m:List Ent}(h:CallT P k ds m R) (a:∀d m',R d m'->f d m'):Ye P k ds m f:=h.mono a
theorem Ub{ds:List D}{m m1:List Ent}{d1:D}(h:CallT P k ds m λd m'=>d=d1/\m'=m1) (hf:f d1 m1):Ye P k ds m f:=
 h.mono λd m' ⟨h1,h2⟩=>by simp_all
theorem la.cons{d e:D}{l:List D}(h1:Sub d e) (h2:la l r):la (d::l) (e::r):=by
 simp only[la]
 grind
theorem Sub.Ia(d:D):Sub d .dead:=by cases d<;>simp[Sub]
variable {P:Program} {N:Nat}
def gP(p Y N:Prop):Prop:=(p->Y)/\(¬p->N)
theorem gP_T{N:Prop}:gP True Y N=Y:=by simp[gP]
theorem gP_F{N:Prop}:gP False Y N=N:=by simp[gP]
@[congr] theorem gP_congr{p a Y N:Prop} (h:p=a):gP p Y N=gP a Y N:=by rw[h]
theorem gP.mk{N:Prop}(a:p->Y) (h2:¬p->N):gP p Y N:=⟨a,h2⟩
def Cx(s:St) (g:Option (Tmp×Bool)) (b:Bool):St:=
 match g with
 |none=>s
 |some (t,_)=>
  match s.t.getD t .dead with
  |.v (.bool _)=>{ s with t:=s.t.set t (.v (.bool b)) }
  |_=>s
theorem JB{l:List D}{t:Nat}{d:D}(h:l.getD t .dead=d) (hd:d≠.dead):l.set t d=l:=by
 apply kac
 grind
theorem VS{s:St}{c b:Bool}(hg:gate s g=some (some (c,b))) (e:c=b):Cx s g b=s:=by
 unfold Cx
 cases g with
 |none=>rfl
 |some p=>
  obtain⟨t,b'⟩:=p;simp only;split
  all_goals simp_all[gate,JB]
theorem X1{s:St}{c b:Bool}(a:gate s g=some (some (c,b))) (e:c≠b):Cx s g (!b)=s:=by
 unfold Cx
 cases g with
 |none=>rfl
 |some p=>
  obtain⟨t,d⟩:=p;simp only;split
  .rename_i x hx;simp only[gate,hx]at a;injection a with a;injection a with a;injection a with f h2;subst f h2;have:x = !d:=by cases x<;>cases d<;>simp_all
   simp_all[JB]
  .rfl
def KO(R:St->Prop) (s:St) (dst:Option Tmp) (d:D) (m':List Ent):Prop:=R ({ s with m:=m' }.put dst d)
def zh(P:Program):List RI->(St->Prop)->St->Prop
 |[],K,s=>K s
 |.op dst g i::l,K,s=>
  match gate s g with
  |none=>False
  |some none=>Pp (da s i) (KO (zh P l K) s dst)
  |some (some (c,b))=>gP (c=b) (Pp (da (Cx s g b) i) (KO (zh P l K) (Cx s g b) dst)) (zh P l K ((Cx s g (!b)).put dst (.v undef)))
 |.call dst g f args::l,K,s=>
  match s.ec f with
  |.fn k first caps=>
   match gate s g with
   |none=>False
   |some none=>Ye P k (first++args.map s.ev++caps) s.m (KO (zh P l K) s dst)
   |some (some (c,b))=>gP (c=b) (Ye P k (first++args.map (Cx s g b).ev++caps) s.m (KO (zh P l K) (Cx s g b) dst)) (zh P l K ((Cx s g (!b)).put dst (.v undef)))
  |_=>False
theorem Xs:∀{l:List RI}{K:St->Prop}{s:St},zh P l K s->wj P l K s
 |[],K,s,h=>h
 |.op dst g i::l,K,s,h=>by
  simp only[zh]at h;simp only[wj];split at h
  .simp_all
  .rename_i a;rw[a];obtain⟨d,m',j,h2⟩:=(Dl _ _).1 h;exact⟨d,m',j,Xs h2⟩
  .rename_i c b a;rw[a];refine⟨λe=>?_,λe=>?_⟩
   .have h:=h.1 e;rw[VS a e]at h;obtain⟨d,m',j,h2⟩:=(Dl _ _).1 h;exact⟨d,m',j,Xs h2⟩
   .have h:=h.2 e;rw[X1 a e]at h;exact Xs h
 |.call dst g f args::l,K,s,h=>by
  simp only[zh]at h;simp only[wj];split at h
  .rename_i k first caps hf
   rw[hf];split at h
   .simp_all
   .rename_i a;rw[a];exact h.mono λ_ _ h2=>Xs h2
   .rename_i c b a;rw[a];refine⟨λe=>?_,λe=>?_⟩
    .have h:=h.1 e;rw[VS a e]at h;exact h.mono λ_ _ h2=>Xs h2
    .have h:=h.2 e;rw[X1 a e]at h;exact Xs h
  simp_all
def ow(P:Program):Nat->List RI->(St->Prop)->St->Prop
 |0,l,K,s=>zh P l K s
 |_+1,[],_,_=>False
 |q+1,.op dst g i::l,K,s=>
  match gate s g with
  |none=>False
  |some none=>Pp (da s i) (KO (ow P q l K) s dst)
  |some (some (c,b))=>gP (c=b) (Pp (da s i) (KO (ow P q l K) s dst)) (ow P q l K (s.put dst (.v undef)))
 |q+1,.call dst g f args::l,K,s=>
  match s.cv f with
  |.fn k first caps=>
   match gate s g with
   |none=>False
   |some none=>∃d,(∀m,CallT P k (first++args.map s.ev++caps) m λd' m'=>d'=d/\m'=m)/\ow P q l K (s.put dst d)
   |some (some (c,b))=>(c=b->∃d,(∀m,CallT P k (first++args.map s.ev++caps) m λd' m'=>d'=d/\m'=m)/\ow P q l K (s.put dst d))/\(c≠b->ow P q l K (s.put dst (.v undef)))
  |_=>False
theorem HF:∀{q:Nat}{l:List RI}{K:St->Prop}{s:St},ow P q l K s->AL P q l K s
 |0,l,K,s,h=>by simp only[ow]at h;simp only[AL];exact Xs h
 |_+1,[],K,s,h=>by simp only[ow]at h
 |q+1,.op dst g i::l,K,s,h=>by
  simp only[ow]at h;simp only[AL];split at h
  .simp_all
  .rename_i j;rw[j];obtain⟨d,m',a,h2⟩:=(Dl _ _).1 h;exact⟨d,m',a,HF h2⟩
  .rename_i c b j;rw[j];refine⟨λe=>?_,λe=>HF (h.2 e)⟩;obtain⟨d,m',a,h2⟩:=(Dl _ _).1 (h.1 e);exact⟨d,m',a,HF h2⟩
 |q+1,.call dst g f args::l,K,s,h=>by
  simp only[ow]at h;simp only[AL];split at h
  .rename_i k first caps hf
   rw[hf];split at h
   .simp_all
   .rename_i j;rw[j];obtain⟨d,a,h2⟩:=h;exact⟨d,a,HF h2⟩
   .rename_i c b j;rw[j];refine⟨λe=>?_,λe=>HF (h.2 e)⟩;obtain⟨d,a,h2⟩:=h.1 e;exact⟨d,a,HF h2⟩
  simp_all
def C.EE:C->Bool
 |.loop _=>true
 |.any ..=>true
 |.seq a b=>a.EE || b.EE
 |.cond _ a b=>a.EE || b.EE
 |.block _ a=>a.EE
 |_=>false
def C.kl:C->Bool
 |.loop _=>true
 |_=>false
theorem pU{f:FuncId}{ds:List D}{m:List Ent}(a:la ds ds') (h:CallT P f ds' m R):CallT P f ds m R:=
 ⟨h.1,λG w vs hv hi=>h.2 G w vs (a.rel hv) hi⟩
def KS(P:Program) (N:Nat) (b:C) (K:Exit->St->Prop) (e:Exit) (s':St):Prop:=match e with|.normal=>Tm.T P N b K s'|e=>K e s'
theorem RT{b:C}{K:Exit->St->Prop}{s:St}:KS P N b K .normal s=Tm.T P N b K s:=maa rfl rfl
theorem K7{b:C}{K:Exit->St->Prop}{s:St}:KS P N b K (.exit i) s=K (.exit i) s:=maa rfl rfl
theorem KS_ret{b:C}{K:Exit->St->Prop}{s:St}:KS P N b K .ret s=K .ret s:=maa rfl rfl
def KZ(R:St->Prop) (K:Exit->St->Prop) (e:Exit) (s':St):Prop:=match e with|.normal=>R s'|e=>K e s'
def KB(id:Nat) (K:Exit->St->Prop) (e:Exit) (s':St):Prop:=match e with|.exit a=>if a=id then K .normal s' else K (.exit a) s'|e=>K e s'
theorem QT{K:Exit->St->Prop}{s:St}:KB id K .normal s=K .normal s:=maa rfl rfl
theorem G7{K:Exit->St->Prop}{s:St}:KB id K (.exit i) s=if i=id then K .normal s else K (.exit i) s:=maa rfl rfl
theorem KB_ret{K:Exit->St->Prop}{s:St}:KB id K .ret s=K .ret s:=maa rfl rfl
@[congr] theorem T_congr{c:C} {K:Exit->St->Prop} {s s':St} (h:s=s'):Tm.T P N c K s=Tm.T P N c K s':=by rw[h]
def Z(P:Program) (N:Nat):C->(Exit->St->Prop)->St->Prop
 |.skip,K,s=>K .normal s
 |.QK l,K,s=>zh P l (K .normal) s
 |.draw q l,K,s=>ow P q l (K .normal) s
 |.any cuts q bs l,K,s=>T P N (.any cuts q bs l) K s
 |.seq a b,K,s=>
  match a.EE with
  |true=>Z P N a (KS P N b K) s
  |false=>Z P N a (KZ (Z P N b K) K) s
 |.cond c a b,K,s=>
  match s.ev c with
  |.v (.bool t)=>gP (t=true) (Z P N a K s) (Z P N b K s)
  |_=>False
 |.block id a,K,s=>
  match a.kl with
  |true=>T P N (.block id a) K s
  |false=>Z P N a (KB id K) s
 |.loop a,K,s=>T P N (.loop a) K s
 |.exit id,K,s=>K (.exit id) s
 |.ret,K,s=>K .ret s
 |.stuck,_,_=>False
theorem Z.T(hm:P.follows .mixedOrders=true):∀{c:C}{K:Exit->St->Prop}{s:St},Z P N c K s->T P N c K s
 |.skip,K,s,h=>T.skip h
 |.QK l,K,s,h=>T.QK (Xs h)
 |.draw q l,K,s,h=>T.draw hm (HF h)
 |.any cuts q bs l,K,s,h=>h
 |.seq a b,K,s,h=>by
  simp only[Z]at h;split at h
  .refine T.seq ((Z.T hm h).mono ?_);intro e s' h';cases e<;>exact h'
  .refine T.seq ((Z.T hm h).mono ?_);intro e s' h'
   cases e with
   |normal=>exact Z.T hm h'
   |_=>exact h'
 |.cond c a b,K,s,h=>by
  simp only[Z]at h;split at h
  .rename_i t ht;exact T.cond ht (λe=>Z.T hm (h.1 e)) (λe=>Z.T hm (h.2 (by simp[e])))
  .exact h.elim
 |.block id a,K,s,h=>by
  simp only[Z]at h;split at h
  .exact h
  .exact T.block ((Z.T hm h).mono λe s' h'=>by cases e<;>exact h')
 |.loop a,K,s,h=>h
 |.exit id,K,s,h=>T.exit h
 |.ret,K,s,h=>T.ret h
 |.stuck,_,_,h=>by simp only[Z]at h
section
variable {l:List RI} {K:St->Prop} {s:St} {dst:Option Tmp} {i:I} {q:Nat} {f:Cal} {args:List Operand} {g:Tmp×Bool}
theorem KX:zh P [] K s=K s:=maa rfl rfl
theorem kR:zh P (.op dst none i::l) K s=Pp (da s i) (KO (zh P l K) s dst):=maa rfl rfl
theorem MX:zh P (.op dst (some g) i::l) K s =
 match gate s (some g)with
 |none=>False
 |some none=>Pp (da s i) (KO (zh P l K) s dst)
 |some (some (c,b))=>gP (c=b) (Pp (da (Cx s (some g) b) i) (KO (zh P l K) (Cx s (some g) b) dst)) (zh P l K ((Cx s (some g) (!b)).put dst (.v undef))):=maa rfl rfl
theorem UT{k:FuncId}{first caps:List D}(hf:s.ec f=.fn k first caps):zh P (.call dst none f args::l) K s=Ye P k (first++args.map s.ev++caps) s.m (KO (zh P l K) s dst):=by
 simp only[zh,hf,gate]
theorem aF{k:FuncId}:zh P (.call dst none (.func k) args::l) K s=Ye P k (args.map s.ev) s.m (KO (zh P l K) s dst):=by
 rw[UT (k:=k) (first:=[]) (caps:=[]) rfl,Qaa,Taa]
theorem GL{k:FuncId}:zh P (.call dst (some g) (.func k) args::l) K s =
 match gate s (some g)with
 |none=>False
 |some none=>Ye P k (args.map s.ev) s.m (KO (zh P l K) s dst)
 |some (some (c,b))=>gP (c=b) (Ye P k (args.map (Cx s (some g) b).ev) s.m (KO (zh P l K) (Cx s (some g) b) dst)) (zh P l K ((Cx s (some g) (!b)).put dst (.v undef))):=by
 simp only[zh,St.ec,St.ev,Qaa,Taa]
theorem AX:ow P 0 l K s=zh P l K s:=by simp only[ow]
theorem zX:ow P (q+1) (.op dst none i::l) K s=Pp (da s i) (KO (ow P q l K) s dst):=maa rfl rfl
theorem F7:ow P (q+1) (.op dst (some g) i::l) K s =
 match gate s (some g)with
 |none=>False
 |some none=>Pp (da s i) (KO (ow P q l K) s dst)
 |some (some (c,b))=>gP (c=b) (Pp (da s i) (KO (ow P q l K) s dst)) (ow P q l K (s.put dst (.v undef))):=maa rfl rfl
def CI(P:Program) (k:FuncId) (ds:List D) (R:St->Prop) (s:St) (dst:Option Tmp):Prop:=∃d,(∀m,CallT P k ds m λd' m'=>d'=d/\m'=m)/\R (s.put dst d)
theorem sI{k:FuncId}:ow P (q+1) (.call dst none (.func k) args::l) K s=CI P k (args.map s.ev) (ow P q l K) s dst:=by
 simp only[ow,St.cv,St.ev,Qaa,Taa,CI,gate]
theorem PO{k:FuncId}:ow P (q+1) (.call dst (some g) (.func k) args::l) K s =
 match gate s (some g)with
 |none=>False
 |some none=>CI P k (args.map s.ev) (ow P q l K) s dst
 |some (some (c,b))=>gP (c=b) (CI P k (args.map s.ev) (ow P q l K) s dst) (ow P q l K (s.put dst (.v undef))):=by
 simp only[ow,St.cv,St.ev,Qaa,Taa,CI,gP]
variable {K':Exit->St->Prop} {a b:C} {c:Operand} {id:Nat} {cuts:List Nat} {bs:List (List Nat)}
theorem Mm:Z P N .skip K' s=K' .normal s:=maa rfl rfl
theorem Lr:Z P N (.QK l) K' s=zh P l (K' .normal) s:=maa rfl rfl
theorem Jm:Z P N (.draw q l) K' s=ow P q l (K' .normal) s:=maa rfl rfl
theorem Kr:Z P N (.any cuts q bs l) K' s=Tm.T P N (.any cuts q bs l) K' s:=maa rfl rfl
def KZb(P:Program) (N:Nat) (b:C) (K':Exit->St->Prop):Exit->St->Prop:=KZ (Z P N b K') K'
theorem Pc:KZb P N b K' .normal s=Z P N b K' s:=maa rfl rfl
theorem kg:KZb P N b K' (.exit id) s=K' (.exit id) s:=maa rfl rfl
theorem Ii:KZb P N b K' .ret s=K' .ret s:=maa rfl rfl
theorem Nr:Z P N (.seq a b) K' s=match a.EE with
 |true=>Z P N a (KS P N b K') s
 |false=>Z P N a (KZb P N b K') s:=maa rfl rfl
theorem Im:Z P N (.cond c a b) K' s=match s.ev c with
 |.v (.bool t)=>gP (t=true) (Z P N a K' s) (Z P N b K' s)
 |_=>False:=maa rfl rfl
theorem Ji:Z P N (.block id a) K' s=match a.kl with
 |true=>Tm.T P N (.block id a) K' s
 |false=>Z P N a (KB id K') s:=maa rfl rfl
theorem Lm:Z P N (.loop a) K' s=Tm.T P N (.loop a) K' s:=maa rfl rfl
theorem Km:Z P N (.exit id) K' s=K' (.exit id) s:=maa rfl rfl
theorem Mr:Z P N .ret K' s=K' .ret s:=maa rfl rfl
end
def At(s' S:St):Prop:=la s'.t S.t/\∃g,s'.m=S.m++g
theorem At.mk(t t':List D) (m g:List Ent) (h:la t t'):At ⟨t,m++g⟩ ⟨t',m⟩:=⟨h,g,rfl⟩
theorem At.same(t t':List D) (m:List Ent) (h:la t t'):At ⟨t,m⟩ ⟨t',m⟩:=⟨h,[],by simp⟩
theorem At.cut(n:Nat) {t':List D}{m:List Ent}(a:la t t') (h2:m.take n=m'):At ⟨t,m⟩ ⟨t',m'⟩:=⟨a,m.drop n,by grind[List.take_append_drop]⟩
def Fit(N:Nat) (s:St):Prop:=N<=s.m.length/\belows s.m.length s.t=true/\s.m.all (Ent.below s.m.length)=true
theorem Sub.inv{a b:D}(h:Sub a b):b=.dead\/(∃S,a=.v (.slice none 0 0)/\b=.sl S [])\/(∃l r,a=.agg l/\b=.agg r/\la l r)\/(∃l r,a=.tup l/\b=.tup r/\la l r)\/(∃S l r,a=.sl S l/\b=.sl S r/\la l r)\/a=b:=by
 cases b with
 |dead=>simp
 |v x=>cases a<;>simp_all[Sub]
 |agg r=>cases a<;>simp_all[Sub]
 |tup r=>cases a<;>simp_all[Sub]
 |sl S r=>
  cases a with
  |sl S' l=>simp only[Sub]at h;grind
  |_=>simp_all[Sub]
 |pt x=>cases a<;>simp_all[Sub]
 |ref _ _ _ _=>cases a<;>simp_all[Sub]
 |own _ _=>cases a<;>simp_all[Sub]
 |view _ _ _ _=>cases a<;>simp_all[Sub]
 |fn _ _ _=>cases a<;>simp_all[Sub]
 |mp _=>cases a<;>simp_all[Sub]
 |ifc _ _=>cases a<;>simp_all[Sub]
mutual
theorem Sub.trans:∀{a b c:D},Sub a b->Sub b c->Sub a c
 |a,.dead,c,d,h2=>by
  rcases h2.inv with rfl|⟨_,h,_⟩|⟨_,_,h,_⟩|⟨_,_,h,_⟩|⟨_,_,_,h,_⟩|rfl
  .exact Sub.Ia _
  .cases h
  .cases h
  .cases h
  .cases h
  .exact Sub.Ia _
 |a,.agg r,c,d,h2=>by
  rcases d.inv with h|⟨_,_,h⟩|⟨l,j,rfl,h,g⟩|⟨_,_,_,h,_⟩|⟨_,_,_,_,h,_⟩|rfl
  .cases h
  .cases h
  .injection h with h;subst h;rcases h2.inv with rfl|⟨_,h,_⟩|⟨j,q,h,rfl,e⟩|⟨_,_,h,_⟩|⟨_,_,_,h,_⟩|rfl
   .exact Sub.Ia _
   .cases h
   .injection h with h;subst h;simp only[Sub];exact la.trans g e
   .cases h
   .cases h
   .exact d
  .cases h
  .cases h
  .exact h2
 |a,.tup r,c,d,h2=>by
  rcases d.inv with h|⟨_,_,h⟩|⟨_,_,_,h,_⟩|⟨l,j,rfl,h,g⟩|⟨_,_,_,_,h,_⟩|rfl
  .cases h
  .cases h
  .cases h
  .injection h with h;subst h;rcases h2.inv with rfl|⟨_,h,_⟩|⟨_,_,h,_⟩|⟨j,q,h,rfl,e⟩|⟨_,_,_,h,_⟩|rfl
   .exact Sub.Ia _
   .cases h
   .cases h
   .injection h with h;subst h;simp only[Sub];exact la.trans g e
   .cases h
   .exact d
  .cases h
  .exact h2
 |a,.sl S r,c,d,h2=>by
  rcases h2.inv with rfl|⟨_,h,_⟩|⟨_,_,h,_⟩|⟨_,_,h,_⟩|⟨S',l',q,h,rfl,e⟩|rfl
  .exact Sub.Ia _
  .cases h
  .cases h
  .cases h
  .injection h with i f;subst i;subst f;rcases d.inv with h|⟨_,rfl,h⟩|⟨_,_,_,h,_⟩|⟨_,_,_,h,_⟩|⟨_,l,_,rfl,h,g⟩|rfl
   .cases h
   .injection h with i f;subst f;simp only[la]at e;subst e;simp[Sub]
   .cases h
   .cases h
   .injection h with i f;subst i;subst f;simp only[Sub,true_and];exact la.trans g e
   .exact h2
  .exact d
 |a,.v x,c,d,h2=>by
  rcases d.inv with h|⟨_,_,h⟩|⟨_,_,_,h,_⟩|⟨_,_,_,h,_⟩|⟨_,_,_,_,h,_⟩|rfl<;>first|cases h|exact h2
 |a,.pt x,c,d,h2=>by
  rcases d.inv with h|⟨_,_,h⟩|⟨_,_,_,h,_⟩|⟨_,_,_,h,_⟩|⟨_,_,_,_,h,_⟩|rfl<;>first|cases h|exact h2
 |a,.ref _ _ _ _,c,d,h2=>by
  rcases d.inv with h|⟨_,_,h⟩|⟨_,_,_,h,_⟩|⟨_,_,_,h,_⟩|⟨_,_,_,_,h,_⟩|rfl<;>first|cases h|exact h2
 |a,.own _ _,c,d,h2=>by
  rcases d.inv with h|⟨_,_,h⟩|⟨_,_,_,h,_⟩|⟨_,_,_,h,_⟩|⟨_,_,_,_,h,_⟩|rfl<;>first|cases h|exact h2
 |a,.view _ _ _ _,c,d,h2=>by
  rcases d.inv with h|⟨_,_,h⟩|⟨_,_,_,h,_⟩|⟨_,_,_,h,_⟩|⟨_,_,_,_,h,_⟩|rfl<;>first|cases h|exact h2
 |a,.fn _ _ _,c,d,h2=>by
  rcases d.inv with h|⟨_,_,h⟩|⟨_,_,_,h,_⟩|⟨_,_,_,h,_⟩|⟨_,_,_,_,h,_⟩|rfl<;>first|cases h|exact h2
 |a,.mp _,c,d,h2=>by
  rcases d.inv with h|⟨_,_,h⟩|⟨_,_,_,h,_⟩|⟨_,_,_,h,_⟩|⟨_,_,_,_,h,_⟩|rfl<;>first|cases h|exact h2
 |a,.ifc _ _,c,d,h2=>by
  rcases d.inv with h|⟨_,_,h⟩|⟨_,_,_,h,_⟩|⟨_,_,_,h,_⟩|⟨_,_,_,_,h,_⟩|rfl<;>first|cases h|exact h2
theorem la.trans:∀{a b c:List D},la a b->la b c->la a c
 |[],b,c,f,h2=>by simp only[la]at f;subst f;exact h2
 |d::a,b,c,f,h2=>by
  simp only[la]at f;obtain⟨e,r,rfl,g,h⟩:=f;simp only[la]at h2;obtain⟨e',r',rfl,k3,k4⟩:=h2;exact la.cons (Sub.trans g k3) (la.trans h k4)
end
theorem At.trans{a b c:St}(d:At a b) (h2:At b c):At a c:=by
 obtain⟨d,g,k1⟩:=d;obtain⟨h2,e,k2⟩:=h2;exact⟨d.trans h2,e++g,by simp_all⟩
def SO(N:Nat) (K:Exit->St->Prop):Prop:=∀s s',At s' s->Fit N s->K .normal s->K .normal s'
theorem NL{s S:St}(J:At s S) (hb:Fit N S):∀(G:Gh) (w:World) (a:Act),N<=G.n->Rel G w a s->∃G',Rel G' w a S/\StepN N G w s.m G' w S.m:=by
 intro G w a hN' d;obtain⟨E,g,h2⟩:=J;obtain⟨hN,ht,z⟩:=hb;have v:S.m=s.m.take S.m.length:=by simp_all
 have hk:S.m.length<=s.m.length:=by grind
 have hm:(s.m.take S.m.length).all (Ent.below S.m.length)=true:=by grind
 have hr:Rel G w a ⟨S.t,s.m⟩:=⟨E.rel d.t,d.inv,d.defers⟩;generalize r:S.m.length=k at *;obtain⟨St,Sm⟩:=S;simp only at v ht r hr;subst v;clear d h2 r z;have hi:=hr.inv;have c:∀(i:Nat) e,(s.m.take k)[i]?=some e->i<k/\s.m[i]?=some e:=by
  grind
 have q:Inv (G.trim k) w (s.m.take k):=by
  refine⟨by grind[Gh.trim],hi.F,λi e he=>?_,λi j e e' he x hl y b hb o=>hi.apart i j e e' (c i e he).2 (c j e' x).2 hl y b hb o,hi.gl.bare λ_ h=>h⟩;have hbe:e.below k=true:=Xaa.1 hm e (List.mem_of_getElem? he);have f:=hi.ent i e (c i e he).2
  cases e with
  |live S Ma l=>
   obtain⟨a1,a2,a3,a4,a5⟩:=f;refine⟨a1,a2,a3,a4,?_⟩;rcases a5 with a5|⟨B,cs,T,o,I,p,A,u⟩
   .exact .inl a5
   .exact .inr ⟨B,cs,T,o,I,p,A,u.trim (by grind[Ent.below])⟩
  |mp es=>
   obtain⟨a1,b,D,C,a2,a3,a4,a5⟩:=f;exact⟨a1,b,D,C,a2,a3,a4,a5.trim (by grind[Ent.below])⟩
  |gone=>trivial
 refine⟨G.trim k,⟨hr.t.trim ht,q,hr.defers⟩,⟨λ_ h=>h,λ_ _=>rfl,hN,λi hi'=>.inl ⟨rfl,rfl,rfl,rfl,rfl⟩,rfl,rfl,rfl,Haa _,λ_ _ _=>rfl,λ_ _ h=>.inl h,?_⟩⟩;rintro b hb ⟨i,e,he,hl,H⟩;exact⟨i,e,(c i e he).2,hl,H⟩
def yL(N:Nat) (K:Exit->St->Prop) (e:Exit) (s:St):Prop:=∀(G:Gh) (w:World) (a:Act),N<=G.n->Rel G w a s->∃s' G',K e s'/\Rel G' w a s'/\StepN N G w s.m G' w s'.m
theorem yL.of{K:Exit->St->Prop}{e:Exit}{s:St}(h:K e s):yL N K e s:=λG w a hN hr=>⟨s,G,h,hr,StepN.refl _ _ _ hN⟩
theorem T.zY{c:C}{K:Exit->St->Prop}{s:St}(h:Tm.T P N c (yL N K) s):Tm.T P N c K s:=by
 intro code hc G w a hN hr;refine Code.wp_mono ?_ (h code hc G w a hN hr);rintro e a' w' ⟨s',G',i,f,b⟩;obtain⟨g,d,j,k,k3⟩:=i G' w' a' b.n f;exact⟨g,d,j,k,b.trans k3⟩
theorem stab_C{K:Exit->St->Prop}:SO N (yL N K):=by
 intro s s' e h2 f G w a hN hr;obtain⟨G',g,d⟩:=NL e h2 G w a hN hr;obtain⟨c,b,m1,m2,m3⟩:=f G' w a d.n g;exact⟨c,b,m1,m2,d.trans m3⟩
theorem T.at{c:C}{K:Exit->St->Prop}{s S:St}(e:At s S) (hb:Fit N S) (h:Tm.T P N c K S):Tm.T P N c K s:=by
 obtain⟨d,g,h2⟩:=e;obtain⟨a,b,b3⟩:=hb;refine T.sub S.t d ?_;refine T.trim S.m.length a (by grind) b (by simp_all) ?_
 simp_all
theorem T.Dk{a b:C}{K:Exit->St->Prop}{s:St}(h:Tm.T P N a (KS P N b K) s):Tm.T P N (.seq a b) K s:=T.seq (h.mono λe s' h'=>by cases e<;>exact h')
theorem uu{b:C}{K:Exit->St->Prop}:SO N (KS P N b K):=λs s' a h2 c=>T.at a h2 c
theorem stab_B{K:Exit->St->Prop}(h:SO N K):SO N (KB id K):=h
def KM{X:Type}(id:Nat) (K:Exit->St->Prop) (S:X->St) (cr fin:X->Prop) (μ:X->Nat) (y:X) (e:Exit) (s':St):Prop:=
 match e with|.normal=>∃z,cr z/\μ z<μ y/\At s' (S z)|.exit j=>if j=id then(∃z,fin z/\At s' (S z))else K (.exit j) s'|e=>K e s'
section
variable {X:Type} {id:Nat} {K:Exit->St->Prop} {S:X->St} {cr fin:X->Prop} {μ:X->Nat} {y:X} {s':St}
theorem En:KM id K S cr fin μ y .normal s' = ∃z,cr z/\μ z<μ y/\At s' (S z):=maa rfl rfl
theorem Lp:KM id K S cr fin μ y (.exit j) s'=if j=id then(∃z,fin z/\At s' (S z))else K (.exit j) s':=maa rfl rfl
end
def KI(id n:Nat) (K:Exit->St->Prop) (S:Nat->St) (i:Nat) (e:Exit) (s':St):Prop:=
 match e with|.normal=>i<n/\At s' (S (i+1))|.exit j=>if j=id then i=n/\At s' (S n)else K (.exit j) s'|e=>K e s'
section
variable {id n i:Nat} {K:Exit->St->Prop} {S:Nat->St} {s':St}
theorem Pj:KI id n K S i .normal s'=(i<n/\At s' (S (i+1))):=maa rfl rfl
theorem pw:KI id n K S i (.exit j) s'=if j=id then i=n/\At s' (S n)else K (.exit j) s':=maa rfl rfl
end
theorem stab_M{K:Exit->St->Prop}{S:X->St}{cr fin:X->Prop}{μ:X->Nat}{y:X}:SO N (KM id K S cr fin μ y):=by
 rintro s s' a - ⟨z,b,c,k3⟩;exact⟨z,b,c,a.trans k3⟩
theorem T.QL{x:C}{K:Exit->St->Prop}{s:St}(S:X->St) (cr fin:X->Prop) (μ:X->Nat) (x₀:X) (d:cr x₀) (g:At s (S x₀))
 (hb:∀y,cr y\/fin y->Fit N (S y))
 (round:∀y,cr y->Tm.T P N x (KM id K S cr fin μ y) (S y))
 (a:(∃z,fin z)->SO N K) (rest:∀z,fin z->K .normal (S z)):Tm.T P N (.block id (.loop x)) K s:=by
 refine T.at g (hb x₀ (.inl d)) ?_;refine T.block (T.loopS S cr μ x₀ d (la.pb _) rfl (λy b=>hb y (.inl b)) λy b=>(round y b).mono ?_);intro e s' h
 cases e with
 |normal=>obtain⟨z,f,h2,h3,h4⟩:=h;grind
 |exit j=>
  simp only[Lp]at h⊢;split at h
  .rename_i hj;rw[if_pos hj];obtain⟨z,c,f⟩:=h;exact a ⟨z,c⟩ (S z) s' f (hb z (.inr c)) (rest z c)
  simp_all
 |_=>exact h
theorem T.lU{x:C}{K:Exit->St->Prop}{s:St}(n:Nat) (S:Nat->St) (b:At s (S 0)) (hb:∀i,i<=n->Fit N (S i))
 (round:∀i,i<=n->Tm.T P N x (KI id n K S i) (S i))
 (a:SO N K) (rest:K .normal (S n)):Tm.T P N (.block id (.loop x)) K s:=by
 refine T.QL (X:=Nat) S (λi=>i<=n) (λi=>i=n) (λi=>n-i) 0 (qab _) b (λy hy=>hb y (by omega)) (λi hi=>(round i hi).mono ?_) (λ_=>a) (λz hz=>by simp_all);intro e s' h
 cases e with
 |normal=>
  simp only[Pj]at h;exact⟨i+1,h.1,by grind,h.2⟩
 |exit j=>
  simp only[pw,Lp]at h⊢
  grind
 |_=>exact h
theorem n6(d:D):qo [d]=d:=maa rfl rfl
theorem l6:qo []=.tup []:=maa rfl rfl
theorem o6(d e:D) (l:List D):qo (d::e::l)=.tup (d::e::l):=maa rfl rfl
theorem VX{c:Prop} [Decidable c] (p:D×List Ent) (f:D->List Ent->Prop):Pp (if c then some p else none) f=(c/\f p.1 p.2):=by
 by_cases h:c<;>simp[h,Pp]
theorem map_ite{α β:Type}{c:Prop} [Decidable c] (a:α) (g:α->β):(if c then some a else none:Option α).map g=if c then some (g a)else none:=by
 simp
theorem zu{n:Int}(h:-9223372036854775808<=n/\n<=9223372036854775807):aa .i64 n=n:=by
 grind[mw,IntKind.wrap_i64]
theorem fdivN(a b:Nat):Int.fdiv (a:Int) (b:Int)=((a / b:Nat):Int):=(Int.fdiv_eq_ediv_of_nonneg _ (by omega)).trans (by omega)
section
variable {k:Nat} {m:List Ent} {id Ma S lo n:Nat} {l:List D}
end
theorem wrapU64{n:Int}(h:0<=n/\n<18446744073709551616):aa .u64 n=n:=by grind[aa]
theorem Uc(h:k<18446744073709551616):aa .u64 (k:Int)=(k:Int):=wrapU64 (by omega)
theorem qY:((0:Nat):Int)=0:=maa rfl rfl
theorem oq(b:Bool):Kg (Op.unary .not (.bool b))=some (.bool (!b)):=maa rfl rfl
theorem lJ(a b:Nat):((a:Int)<(b:Int))↔a<b:=by omega
theorem o8{a b:List D}(ha:belows k a=true) (hb:belows k b=true):belows k (a++b)=true:=by
 induction a with
 |nil=>grind
 |cons d a ih=>
  simp_all[belows]
theorem JZ{a b:List D}(ha:fa a=true) (hb:fa b=true):fa (a++b)=true:=by
 grind[aj]
theorem neg_int(k:IntKind) (n:Int):Kg (Op.unary .neg (.int k n))=some (.int k (aa k (-n))):=by
 show some (Value.int k (k.wrap (0-n)))=_
 grind[mw]
theorem max_int(k:IntKind) (a b:Int):Kg (Builtin.max_ #[] 0 [Value.int k a,Value.int k b].toArray)=some (.int k (max a b)):=by
 simp only[Builtin.max_,Kg,gaf,bind_pure,Builtin.max2];by_cases h:a<b
 .rw[if_pos h,Int.max_eq_right (by omega)];rfl
 .rw[if_neg h,Int.max_eq_left (by omega)];rfl
theorem min_int(k:IntKind) (a b:Int):Kg (Builtin.min_ #[] 0 [Value.int k a,Value.int k b].toArray)=some (.int k (min a b)):=by
 simp only[Builtin.min_,Kg,gaf,bind_pure,Builtin.min2];by_cases h:b<a
 .rw[if_pos h,Int.min_eq_right (by omega)];rfl
 .rw[if_neg h,Int.min_eq_left (by omega)];rfl
section
variable {α:Type} {l b c:List α} {a a' x:α}
end
open Go.RowKit (Below)
open Go.WideShapes
inductive Sh where
 |bool
 |int (k:IntKind)
 |str
 |sl (S:Nat) (A:Bool) (e:Sh)
 |cat (l:List Sh)
def aggT(P:Program) (t:TypeId):Bool:=
 match P.underlying t with
 |some (.struct _)=>true
 |some (.array _ _)=>true
 |_=>false
def Ls(f:TypeId->Option Sh) (P:Program):List Field->Nat->Option (List Sh×Nat)
 |[],off=>some ([],off)
 |g::gs,off=>
  if g.offset=off then
   match f g.type,Ls f P gs (off+P.cellsOf g.type)with
   |some s,some (l,e)=>some (s::l,e)
   |_,_=>none
  else none
def shOf(P:Program):Nat->TypeId->Option Sh
 |0,_=>none
 |n+1,t=>
  match P.underlying t with
  |some .bool=>some .bool
  |some (.int k)=>some (.int k)
  |some .string=>some .str
  |some (.slice e)=>if 0<P.cellsOf e/\0<P.bytesOf e then(shOf P n e).map λs=>.sl (P.cellsOf e) (aggT P e) s else none
  |some (.struct fs)=>
   match Ls (shOf P n) P fs.toList 0 with
   |some (l,e)=>if e=P.cellsOf t then some (.cat l)else none
   |none=>none
  |some (.array k e)=>if P.cellsOf t=k*P.cellsOf e then(shOf P n e).map λs=>.cat (oaa k s)else none
  |_=>none
def vo(A:Bool) (cs:List D):D:=bif A then .agg cs else cs.headD .dead
mutual
def Mk:Sh->List D->Prop
 |.bool,ds=>∃b,ds=[.v (.bool b)]
 |.int k,ds=>∃n,ds=[.v (.int k n)]/\(Lit.int k n).wf=true
 |.str,ds=>∃s:ByteArray,ds=[.v (.string s)]/\s.size<=maxLen
 |.sl S A e,ds=>∃l,ds=[.sl S l]/\l.length<=140737488355328/\∀d∈l,∃cs,Mk e cs/\d=vo A cs
 |.cat l,ds=>Iu l ds
def Iu:List Sh->List D->Prop
 |[],ds=>ds=[]
 |s::l,ds=>∃a b,ds=a++b/\Mk s a/\Iu l b
end
theorem fD{G:Gh}{w:World}:∀{a b:List D}{us vs:List Value},VsRel G w a us->VsRel G w b vs->VsRel G w (a++b) (us++vs)
 |[],b,us,vs,c,h2=>by simp only[VsRel]at c;simp_all
 |d::a,b,us,vs,c,h2=>by
  simp only[VsRel]at c;obtain⟨u,r,rfl,e,f⟩:=c;simp only[Gaa,VsRel];exact⟨u,_,rfl,e,fD f h2⟩
theorem TD{f:TypeId->Option Sh}{P:Program}:∀{fs:List Field}{off:Nat}{l:List Sh}{e:Nat},Ls f P fs off=some (l,e)->off<=e
 |[],off,l,e,h=>by grind[Ls]
 |g::gs,off,l,e,h=>by
  simp only[Ls]at h;split at h
  .split at h
   .rename_i s l' e' h1 h2;simp at h;have:=TD h2;omega
   .cases h
  .cases h
def R0(w:World):Gh:=Gh.bare λb=>b<w.heap.size
theorem XL{a:Addr}{v:Value}(h:w.cell? a=some v):a.block<w.heap.size:=by
 grind[World.cell?]
section
variable {H:Type} {enc:TypeId×Value->H} {P:Program} {w:World} {base:Nat} {spare:Nat->Bool} {held:Bool}
theorem vt{P:Program}{e:TypeId}:∀{l:List (DataW H)}{d:DataW H},d∈l->∀n∈d.weights P e,n∈DataW.weightsAll P e l
 |[],_,h=>by cases h
 |x::l,d,h=>by
  intro n hn;simp only[DataW.weightsAll,Saa];rcases lab.1 h with rfl|h
  .simp_all
  .exact .inr (vt h n hn)
theorem yD{n fuel:Nat}{cs:List Value}(m:∀t cs x s,shOf P n t=some s->DataW.trod enc P w base spare held fuel t cs=some x->(∀n∈x.1.weights P t,n<=reachBytes)->∃ds,Mk s ds/\VsRel (R0 w) w ds cs/\∀c∈cs,one c=true) :
 ∀(fs:List Field) (off:Nat) (l:List Sh) (e:Nat),Ls (shOf P n) P fs off=some (l,e)->
  (∀f∈fs,∃x,DataW.trod enc P w base spare held fuel f.type ((cs.drop f.offset).take (P.cellsOf f.type))=some x/\∀n∈x.1.weights P f.type,n<=reachBytes)->
  ∃ds,Iu l ds/\VsRel (R0 w) w ds ((cs.drop off).take (e-off))/\∀c∈(cs.drop off).take (e-off),one c=true
 |[],off,l,e,h,_=>by
  simp[Ls]at h;obtain⟨rfl,rfl⟩:=h;refine⟨[],by simp[Iu],by simp[VsRel],by simp⟩
 |g::gs,off,l,e,h,hx=>by
  simp only[Ls]at h;split at h
  .rename_i d;split at h
   .rename_i s l' e' o h2;simp only[Vaa,Naa]at h;obtain⟨rfl,rfl⟩:=h;obtain⟨x,k,j⟩:=hx g (by simp);obtain⟨a,k1,p,k3⟩:=m _ _ _ _ o k j;obtain⟨b,m1,m2,m3⟩:=yD m gs _ _ _ h2 λf hf=>hx f (by grind);have hle:=TD h2;have i:(cs.drop off).take (e'-off)=(cs.drop g.offset).take (P.cellsOf g.type)++(cs.drop (off+P.cellsOf g.type)).take (e'-(off+P.cellsOf g.type)):=by
     rw[show e'-off=P.cellsOf g.type+(e'-(off+P.cellsOf g.type)) by omega,List.take_add,Oad,d]
    rw[i];refine⟨a++b,by simp only[Iu];grind,fD p m2,λc hc=>?_⟩
    grind
   .cases h
  .cases h
theorem DN{n fuel S:Nat}{cs:List Value}{e:TypeId}{s:Sh}(h:∀cs x,DataW.trod enc P w base spare held fuel e cs=some x->(∀n∈x.1.weights P e,n<=reachBytes)->∃ds,Mk s ds/\VsRel (R0 w) w ds cs/\∀c∈cs,one c=true) :
 ∀(k i:Nat),(∀j,i<=j->j<i+k->∃x,DataW.trod enc P w base spare held fuel e ((cs.drop (j*S)).take S)=some x/\∀n∈x.1.weights P e,n<=reachBytes)->
  ∃ds,Iu (oaa k s) ds/\VsRel (R0 w) w ds ((cs.drop (i*S)).take (k*S))/\∀c∈(cs.drop (i*S)).take (k*S),one c=true
 |0,i,_=>⟨[],by simp[Iu],by simp[VsRel],by simp⟩
 |k+1,i,hx=>by
  obtain⟨x,g,f⟩:=hx i (Haa _) (by omega);obtain⟨a,k1,l,k3⟩:=h _ _ g f;obtain⟨b,m1,m2,m3⟩:=DN (n:=n) h k (i+1) λj h1 h2=>hx j (by omega) (by omega);have d:(cs.drop (i*S)).take ((k+1)*S)=(cs.drop (i*S)).take S++(cs.drop ((i+1)*S)).take (k*S):=by
   grind[Nat.succ_mul,Oad]
  rw[d];refine⟨a++b,by simp only[List.replicate_succ,Iu];grind,fD l m2,λc hc=>?_⟩
  grind
theorem tO{A:Bool}{ds:List D}{cs:List Value}(h:VsRel (R0 w) w ds cs) (f:∀c∈cs,one c=true) (hA:A=false->cs.length=1) :
 ∃u:Value,VRel (R0 w) w (vo A ds) u/\u.cells=cs.toArray/\(A=true->u=.agg cs.toArray)/\(A=false->∃c,cs=[c]/\u=c):=by
 cases A with
 |true=>exact⟨.agg cs.toArray,by simp only[vo,cond_true,VRel];simp_all,rfl,λ_=>rfl,λh=>by cases h⟩
 |false=>
  match cs,hA rfl with
  |[c],_=>
   match ds,h with
   |d::r,h=>
    simp only[VsRel]at h;obtain⟨u,us,hu,hv,hr⟩:=h;injection hu with e hu2;subst e;have b:=f c (by simp);have a:c.cells=[c].toArray:=by cases c<;>simp[one]at b<;>rfl
    exact⟨c,by grind[vo],a,λh=>Bool.noConfusion h,λ_=>⟨c,rfl,rfl⟩⟩
theorem R4{n:Nat}{t:TypeId}{s:Sh}(h:shOf P n t=some s) {fuel:Nat}{cs:List Value}{x:DataW H×List MemPlace}(hx:DataW.trod enc P w base spare held fuel t cs=some x):aggT P t=false->cs.length=1:=by
 intro hA
 cases n with
 |zero=>grind[shOf]
 |succ n=>
  simp only[shOf]at h;simp only[aggT]at hA;split at h
  .rename_i hu;obtain⟨b,rfl,_⟩:=DataW.trod_bool hu hx;rfl
  .rename_i hu;obtain⟨b,rfl,_⟩:=DataW.trod_int hu hx;rfl
  .rename_i hu;obtain⟨b,rfl,_⟩:=DataW.trod_string hu hx;rfl
  .rename_i hu;rcases DataW.trod_slice hu hx with⟨rfl,_⟩|⟨a,len,cap,elems,rest,m,_,rfl,_⟩<;>rfl
  all_goals simp_all
theorem Zy:∀(n:Nat) (fuel:Nat) (t:TypeId) (cs:List Value) (x:DataW H×List MemPlace) (s:Sh),shOf P n t=some s->DataW.trod enc P w base spare held fuel t cs=some x->(∀n∈x.1.weights P t,n<=reachBytes)->
 ∃ds,Mk s ds/\VsRel (R0 w) w ds cs/\∀c∈cs,one c=true
 |0,fuel,t,cs,x,s,h,_,_=>by grind[shOf]
 |n+1,fuel,t,cs,x,s,h,hx,o=>by
  simp only[shOf]at h;split at h
  .rename_i hu;injection h with h;subst h;obtain⟨b,rfl,_⟩:=DataW.trod_bool hu hx;exact⟨[.v (.bool b)],by simp only[Mk];simp,by simp[VsRel,VRel],by simp[one]⟩
  .rename_i k hu;injection h with h;subst h;obtain⟨b,rfl,_,hw⟩:=DataW.trod_int hu hx;exact⟨[.v (.int k b)],by simp only[Mk];simp_all,by simp[VsRel,VRel],by simp[one]⟩
  .rename_i hu;injection h with h;subst h;obtain⟨b,rfl,_,hw⟩:=DataW.trod_string hu hx;exact⟨[.v (.string b)],by simp only[Mk];simp_all,by simp[VsRel,VRel],by simp[one]⟩
  .rename_i e hu;split at h
   .rename_i F;simp only[paa]at h;obtain⟨I,p,rfl⟩:=h;rcases DataW.trod_slice hu hx with⟨rfl,_⟩|⟨a,len,cap,elems,rest,m,_,rfl,rfl,hb,hl,hm,g,L,_,_⟩
    .refine⟨[.sl (P.cellsOf e) []],by simp only[Mk];simp,?_,by simp[one]⟩;simp only[VsRel,VRel]
     grind
    .simp only[DataW.weights,hu,lab,Saa]at o;have M:=o _ (.inl rfl);have hle:len<=140737488355328:=by
      simp only[Waa]at M;have C:=Nat.le_mul_of_pos_right (elems.length+rest.length) F.2
      grind[reachBytes]
     have each:∀i,i<len->∃d u,(∃cs,Mk I cs/\d=vo (aggT P e) cs)/\VRel (R0 w) w d u/\u.cells.size=P.cellsOf e/\(∀j c,u.cells[j]?=some c->one c=true/\w.cell? ((a.add (i*P.cellsOf e)).add j)=some c):=by
      intro i hi;have C:=L i hi;rw[naa (by omega)]at C;obtain⟨ecs,Q,y⟩:=jac.1 C;obtain⟨ds,m1,m2,m3⟩:=Zy n _ _ _ _ _ p y (λq hq=>o q (.inr (.inl (vt (wae (taa _)) q hq))));obtain⟨_,q1,q2⟩:=World.cells?_some Q;obtain⟨u,r1,r2,_,_⟩:=tO (A:=aggT P e) m2 m3 (R4 p y)
      grind
     have G:∀k,k<=len->∃l:List D,l.length=k/\(∀d∈l,∃cs,Mk I cs/\d=vo (aggT P e) cs)/\∀(i:Nat) d,l[i]?=some d->∃u,VRel (R0 w) w d u/\u.cells.size=P.cellsOf e/\(∀j c,u.cells[j]?=some c->one c=true/\w.cell? ((a.add (i*P.cellsOf e)).add j)=some c):=by
      intro k
      induction k with
      |zero=>simp
      |succ k W=>
       intro hk;obtain⟨l,T,X,R⟩:=W (by omega);obtain⟨d,u,d1,d2,d3,d4⟩:=each k (by omega);refine⟨l++[d],by grind,λd' K=>?_,λi d' K=>?_⟩
       all_goals grind
     obtain⟨l,T,X,R⟩:=G len (Haa _);refine⟨[.sl (P.cellsOf e) l],by simp only[Mk];simp_all,?_,by simp[one]⟩;simp only[VsRel,VRel];refine⟨_,_,rfl,⟨some a,len,cap,rfl,T.symm,hl,?_⟩,rfl⟩
     cases l with
     |nil=>simp
     |cons d0 l'=>
      obtain⟨U,_,us,uc⟩:=R 0 d0 rfl;have V:∃c,U.cells[0]?=some c:=⟨U.cells[0]'(by omega),Array.getElem?_eq_getElem (by omega)⟩;obtain⟨c,hc⟩:=V;have z:=(uc 0 c hc).2;have E:(a.add (0*P.cellsOf e)).add 0=a:=by simp[Addr.add]
      rw[E]at z;obtain⟨b,off,spot⟩:=a;have B:spot=none:=by simpa using World.cell?_spot z
      subst B;refine .inr ⟨b,off,rfl,XL z,?_⟩;rw[Se];intro i d hd;obtain⟨u,Y,Z,u3⟩:=R i d hd;refine⟨u,Y,Z,λj c hj=>?_⟩;obtain⟨c1,c2⟩:=u3 j c hj;refine⟨c1,?_⟩;have haddr:(Addr.add (Addr.add ⟨b,off,none⟩ (i*P.cellsOf e)) j)=⟨b,off+i*P.cellsOf e+j,none⟩:=by
       unfold Addr.add
       grind
      simp_all
   .cases h
  .rename_i fs hu;split at h
   .rename_i l e N;split at h
    .rename_i he;injection h with h;subst h;obtain⟨xs,m,rfl,rfl,g,O,r⟩:=DataW.trod_struct hu hx;simp only[DataW.weights,hu]at o;obtain⟨ds,Q,y,k3⟩:=yD (n:=n) (fuel:=m) (cs:=cs) (λt cs x s C h2 J=>Zy n _ _ _ _ _ C h2 J) fs.toList 0 l e N (λf hf=>by
      obtain⟨i,hi,hfi⟩:=List.mem_iff_getElem.1 hf;have hi':i<fs.size:=by omega
      have:=r i f (by simp_all);rw[naa (by omega)]at this;exact⟨_,this,λq hq=>o q (DataW.weights_mem_each (j:=i) (t:=f.type) (d:=(xs[i]'(by omega)).1) (by simp_all) (by simp_all) q hq)⟩)
     rw[kad,Ead,he,←g,aab]at y k3;exact⟨ds,by simp only[Mk];omega,y,k3⟩
    .cases h
   .cases h
  .rename_i k e hu;split at h
   .rename_i he;simp only[paa]at h;obtain⟨I,p,rfl⟩:=h;obtain⟨xs,m,rfl,rfl,g,O,r⟩:=DataW.trod_array hu hx;simp only[DataW.weights,hu]at o;obtain⟨ds,Q,y,k3⟩:=DN (n:=n) (fuel:=m) (S:=P.cellsOf e) (cs:=cs) (e:=e) (s:=I) (λcs x h2 J=>Zy n _ _ _ _ _ p h2 J) k 0 (λj _ hj=>by
     grind[vt,wae,taa])
    rw[Nat.zero_mul,kad,←he,←g,aab]at y k3;exact⟨ds,by simp only[Mk];omega,y,k3⟩
   .cases h
  .cases h
def LookV(A:Bool) (s:Sh) (d:D):Prop:=∃ds,Mk s ds/\d=vo A ds
theorem arg_tree{n:Nat}{t:TypeId}{s:Sh}{v:Value}{d:DataW H}{p:List MemPlace}{r:Reach}{f:Nat}(h:shOf P n t=some s) (hx:DataW.Trod enc P w base spare held t v d p) (hv:Value.okWide P w r f t v) (e:∀n∈d.weights P t,n<=reachBytes) :
 ∃d',LookV (aggT P t) s d'/\VRel (R0 w) w d' v:=by
 obtain⟨fuel,hx⟩:=hx;obtain⟨ds,g,i,k3⟩:=Zy n _ _ _ _ _ h hx e;obtain⟨u,u1,u2,j,k⟩:=tO (A:=aggT P t) i k3 (R4 h hx);refine⟨vo (aggT P t) ds,⟨ds,g,rfl⟩,?_⟩;have:u=v:=by
  cases hA:aggT P t with
  |true=>
   rw[j hA];unfold aggT at hA;split at hA
   .rename_i hu;simp only[Value.okWide,hu]at hv;obtain⟨cs,rfl,_⟩:=hv;simp[Value.cells]
   .rename_i hu;simp only[Value.okWide,hu]at hv;obtain⟨cs,rfl,_⟩:=hv;simp[Value.cells]
   simp_all
  |false=>
   obtain⟨c,hc,rfl⟩:=k hA
   cases n with
   |zero=>grind[shOf]
   |succ n=>
    simp only[shOf]at h;unfold aggT at hA;split at h
    .rename_i hu;obtain⟨b,rfl⟩:=okWide_bool hu hv;grind[Value.cells]
    .rename_i hu;obtain⟨b,rfl⟩:=okWide_int hu hv;grind[Value.cells]
    .rename_i hu;obtain⟨b,rfl⟩:=okWide_string hu hv;grind[Value.cells]
    .rename_i hu;obtain⟨a,l,c',rfl⟩:=okWide_slice hu hv;grind[Value.cells]
    all_goals simp_all
 simp_all
end
theorem SN{G':Gh}(h:Step G w [] G' w' m'):Below w.heap.size w w':=
 ⟨h.os,h.tape,h.output,h.size,λk hk=>h.keep k hk λ⟨i,e,he,_⟩=>by simp at he⟩
theorem gok_tab{P:Program}{W:World}{name:String}(i:P.globalNamed name=some 2) (f:Go.Lib.TabIs P W name .i64 [31,28,31,30,31,30,31,31,30,31,30,31]):GOK (R0 W) W:=by
 intro g d h;unfold gtab at h;split at h
 .injection h with h;subst h;have hc:=f.cell i;refine(by
   simp only[VRel];refine⟨2,0,.agg (([31,28,31,30,31,30,31,31,30,31,30,31]:List Int).map λn=>Value.int .i64 n).toArray,rfl,?_,⟨_,rfl,?_,?_⟩,?_⟩
   .exact XL (a:=⟨2,0,none⟩) (hc 0 (by decide))
   .simp only[vaa,gab,VsRel,VRel];simp
   .intro c hc;simp only[vaa,gab,lab,List.not_mem_nil,or_false]at hc;rcases hc with rfl|rfl|rfl|rfl|rfl|rfl|rfl|rfl|rfl|rfl|rfl|rfl<;>rfl
   .intro j c hj;have e:(([31,28,31,30,31,30,31,31,30,31,30,31]:List Int).map λn=>Value.int .i64 n)[j]?=some c:=by grind[Value.cells]
    obtain⟨hlt,b⟩:=fab.1 e;have hlt':j<([31,28,31,30,31,30,31,31,30,31,30,31]:List Int).length:=by grind
    rw[List.getElem_map]at b;subst b;refine⟨rfl,?_⟩
    simp_all:VRel (R0 W) W (.pt (.agg ([31,28,31,30,31,30,31,31,30,31,30,31].map λn=>.v (.int .i64 n)))) (.pointer (some ⟨2,0,none⟩)))
 .cases h
theorem law_walk{P:Program}{f:FuncId}{ds:List D}(h:CallT P f ds [] λd _=>d=.v (.bool true)) (hv:VsRel (R0 w) w ds vs) (b:GOK (R0 w) w) :
 Calls P f vs.toArray w λe w'=>e=.returned (.bool true)/\Below w.heap.size w w':=by
 refine(h.2 (R0 w) w vs hv (aB (λ_ h=>h) b)).mono ?_;rintro e w' ⟨v,d,m',G',rfl,rfl,a,-,c⟩;simp only[VRel]at a;subst a;exact⟨rfl,SN c⟩
variable {P:Program}
theorem binJ_r(op:BinOp) (j k:IntKind) (a b:Int):Kg (binOp op 0 (.int j a) (.int k b))=Qg op j a k b:=(p8 ..).symm
theorem wrapF_r(k:IntKind) (n:Int):k.wrap n=aa k n:=(mw k n).symm
variable {P:Program}
abbrev Mp:=List (Option Nat×Nat×Nat)
variable {os:Mp}
def lr(ρ:Mp) (j:Nat):Bool:=ρ.all λo=>match o.1 with|some k=>k !=j|none=>true
inductive Sbs (ρ:Mp) (m:List Ent):List D->List D->Prop
 |nil:Sbs ρ m [] []
 |same {d l r} (hf:pa d=true) (h:Sbs ρ m l r):Sbs ρ m (d::l) (d::r)
 |dead {d l r} (h:Sbs ρ m l r):Sbs ρ m (d::l) (.dead::r)
 |nils {S l r} (h:Sbs ρ m l r):Sbs ρ m (.v (.slice none 0 0)::l) (.sl S []::r)
 |Hx {S u l r} (i:Nat) (hi:ρ[i]?=some (none,S,u)) (h:Sbs ρ m l r):Sbs ρ m (.v (.slice none 0 0)::l) (.own i u::r)
 |agg {a b l r} (ha:Sbs ρ m a b) (h:Sbs ρ m l r):Sbs ρ m (.agg a::l) (.agg b::r)
 |tup {a b l r} (ha:Sbs ρ m a b) (h:Sbs ρ m l r):Sbs ρ m (.tup a::l) (.tup b::r)
 |sl {S a b l r} (ha:Sbs ρ m a b) (h:Sbs ρ m l r):Sbs ρ m (.sl S a::l) (.sl S b::r)
 |own {j v u i l r} (hi:ρ[i]?=some (some j,v,u)) (h:Sbs ρ m l r):Sbs ρ m (.own j v::l) (.own i u::r)
 |ref {j v u i x s l r} (hi:ρ[i]?=some (some j,v,u)) (h:Sbs ρ m l r):Sbs ρ m (.ref j v x s::l) (.ref i u x s::r)
 |view {j v u i lo n l r} (hi:ρ[i]?=some (some j,v,u)) (h:Sbs ρ m l r):Sbs ρ m (.view j v lo n::l) (.view i u lo n::r)
 |mp {j i l r} (hi:ρ[i]?=some (some j,0,0)) (h:Sbs ρ m l r):Sbs ρ m (.mp j::l) (.mp i::r)
 |Af {S j v a b l r} (hm:m[j]?=some (.live S v a)) (ho:lr ρ j=true) (ha:Sbs ρ m a b) (h:Sbs ρ m l r):Sbs ρ m (.own j v::l) (.sl S b::r)
 |fview {S j v lo n a b l r} (hm:m[j]?=some (.live S v a)) (ho:lr ρ j=true) (hn:lo+n<=a.length) (ha:Sbs ρ m ((a.drop lo).take n) b) (h:Sbs ρ m l r):Sbs ρ m (.view j v lo n::l) (.sl S b::r)
 |fref {S j v x a d e l r} (hm:m[j]?=some (.live S v a)) (ho:lr ρ j=true) (hx:a[x]?=some d) (ha:Sbs ρ m [d] [e]) (h:Sbs ρ m l r):Sbs ρ m (.ref j v x 0::l) (.pt e::r)
 |pt {d e l r} (ha:Sbs ρ m [d] [e]) (h:Sbs ρ m l r):Sbs ρ m (.pt d::l) (.pt e::r)
 |fn {f a b c d l r} (ha:Sbs ρ m a b) (hc:Sbs ρ m c d) (h:Sbs ρ m l r):Sbs ρ m (.fn f a c::l) (.fn f b d::r)
 |ifc {t d e l r} (ha:Sbs ρ m [d] [e]) (h:Sbs ρ m l r):Sbs ρ m (.ifc t d::l) (.ifc t e::r)
def F9(es:List (Value×D)):Bool:=es.all λp=>pa p.2
inductive Ets (ρ:Mp) (m:List Ent):Mp->List Ent->Prop
 |nil:Ets ρ m [] []
 |live {j v u S l l' os es} (hm:m[j]?=some (.live S v l)) (hl:Sbs ρ m l l') (h:Ets ρ m os es):Ets ρ m ((some j,v,u)::os) (.live S u l'::es)
 |new {S u os es} (h:Ets ρ m os es):Ets ρ m ((none,S,u)::os) (.live S u []::es)
 |mp {j es os ees} (hm:m[j]?=some (.mp es)) (hf:F9 es=true) (h:Ets ρ m os ees):Ets ρ m ((some j,0,0)::os) (.mp es::ees)
variable {m:List Ent}
structure Tell (ρ:Mp) (s S:St):Prop where
 t:Sbs ρ s.m s.t S.t
 m:Ets ρ s.m ρ S.m
 one:(ρ.filterMap (·.1)).Nodup
variable {S:St}
def ob(G:Gh) (m:List Ent) (ρ:Mp):Gh where
 F b:=G.F b\/(Bf G m b/\∀(i j:Nat) v,ρ[i]?=some (some j,v)->G.B j≠some b)
 n:=ρ.length
 B i:=match ρ[i]? with|some (some j,_)=>G.B j|_=>none
 V i:=match ρ[i]? with|some (_,_,u)=>u|_=>0
 S i:=match ρ[i]? with|some (some j,_)=>G.S j|some (none,S,_)=>S|_=>0
 N i:=match ρ[i]? with|some (some j,_)=>G.N j|_=>0
 C i:=match ρ[i]? with|some (some j,_)=>G.C j|_=>(0,0)
theorem PS{ρ:Mp}(h:lr ρ j=true):∀(i k:Nat) v,ρ[i]?=some (some k,v)->k≠j:=by
 grind[lr]
theorem ZC{ρ:Mp}(hi:Inv G w m) (d:∀(i j:Nat) v,ρ[i]?=some (some j,v)->∃e:Ent,m[j]?=some e/\e.isLive=true) {e:Ent}(hm:m[j]?=some e) (hl:e.isLive=true) (ho:lr ρ j=true) {b:Nat}(hb:G.B j=some b):(ob G m ρ).F b:=by
 refine .inr ⟨⟨j,e,hm,hl,hb⟩,λi k v a g=>?_⟩;obtain⟨e',c,f⟩:=d i k v a;exact PS ho i k v a (hi.apart k j e' e c hm f hl b g hb)
theorem Sbs.length{ρ:Mp}{m:List Ent}{l r:List D}(h:Sbs ρ m l r):l.length=r.length:=by
 induction h<;>simp_all
theorem mA{ρ:Mp}{o:Option Nat×Nat×Nat}(h:ρ[i]?=some o):i<ρ.length:=by
 grind
theorem Sbs.rel{ρ:Mp}(hi:Inv G w m) (z:∀(i j:Nat) v,ρ[i]?=some (some j,v)->∃e:Ent,m[j]?=some e/\e.isLive=true/\(∀S E l,e=.live S E l->E=v.1)) {l:List D}(h:Sbs ρ m l r) :
 (∀us,VsRel G w l us->VsRel (ob G m ρ) w r us)/\(∀b S off,Na G w b S l off->Na (ob G m ρ) w b S r off):=by
 have y:∀(i j:Nat) v,ρ[i]?=some (some j,v)->∃e:Ent,m[j]?=some e/\e.isLive=true:=λi j v h=>by grind
 have both:∀{d e:D} {l r:List D},(∀u,VRel G w d u->VRel (ob G m ρ) w e u)->
  ((∀us,VsRel G w l us->VsRel (ob G m ρ) w r us)/\(∀b S off,Na G w b S l off->Na (ob G m ρ) w b S r off))->
  ((∀us,VsRel G w (d::l) us->VsRel (ob G m ρ) w (e::r) us)/\(∀b S off,Na G w b S (d::l) off->Na (ob G m ρ) w b S (e::r) off)):=by
  intro d e l r h1 h2;refine⟨λus hv=>?_,λb S off hv=>?_⟩
  .simp only[VsRel]at hv⊢
   grind
  .simp only[Na]at hv⊢
   grind
 have first:∀{d e:D},(∀us,VsRel G w [d] us->VsRel (ob G m ρ) w [e] us)->∀u,VRel G w d u->VRel (ob G m ρ) w e u:=by
  intro d e h u hu;have:=h [u] (by simp only[VsRel];simp_all);simp only[VsRel]at this
  simp_all
 induction h with
 |nil=>exact⟨λus h=>by simpa [VsRel] using h,λ_ _ _ _=>by simp[Na]⟩
 |same hf h o=>exact both (λu hu=>VRel.free (G':=ob G m ρ) ⟨λ_ h=>Or.inl h,λ_ _=>rfl⟩ hf hu) o
 |dead h o=>exact both (λu _=>by simp[VRel]) o
 |nils h o=>exact both (λu hu=>by simp only[VRel]at hu⊢;grind) o
 |Hx i k h o=>
  refine both (λu hu=>?_) o;simp only[VRel]at hu⊢;exact⟨none,0,0,hu,mA k,by grind[ob],λ_=>by grind[ob]⟩
 |agg ha h q o=>
  refine both (λu hu=>?_) o;simp only[VRel]at hu⊢
  grind
 |tup ha h q o=>
  refine both (λu hu=>?_) o;simp only[VRel]at hu⊢
  grind
 |sl ha h q o=>
  refine both (λu hu=>?_) o;simp only[VRel]at hu⊢;obtain⟨a,n,cap,rfl,hn,hc,g⟩:=hu;refine⟨a,n,cap,rfl,by rw[←ha.length];omega,hc,?_⟩;rcases g with rfl|⟨b,off,rfl,B,hr⟩
  .exact .inl (Laa ha.length.symm)
  .exact .inr ⟨b,off,rfl,.inl B,q.2 b _ off hr⟩
 |own k h o=>
  refine both (λu hu=>?_) o;obtain⟨e,he,hl,hv⟩:=z _ _ _ k;simp only[VRel]at hu⊢;obtain⟨a,n,c,rfl,g1,g2,g3⟩:=hu;refine⟨a,n,c,rfl,mA k,by grind[ob],λ_=>?_⟩;have f:=hi.ent _ _ he
  cases e with
  |live S E l'=>
   obtain⟨a1,_⟩:=f;have:=g3 (by grind)
   grind[ob]
  |mp es=>
   obtain⟨a1,_⟩:=f
   grind[ob]
  |gone=>grind[Ent.isLive]
 |ref k h o=>
  refine both (λu hu=>?_) o;obtain⟨e,he,hl,hv⟩:=z _ _ _ k;simp only[VRel]at hu⊢;obtain⟨a,rfl,g1,g2,g3⟩:=hu;refine⟨a,rfl,mA k,by grind[ob],λ_=>?_⟩;have f:=hi.ent _ _ he
  cases e with
  |live S E l'=>
   obtain⟨a1,_⟩:=f;have:=g3 (by grind);simpa [ob,k] using this
  |mp es=>
   obtain⟨a1,_⟩:=f;have:=g3 (by omega);simpa [ob,k] using this
  |gone=>grind[Ent.isLive]
 |view k h o=>
  refine both (λu hu=>?_) o;obtain⟨e,he,hl,hv⟩:=z _ _ _ k;simp only[VRel]at hu⊢;obtain⟨a,c,rfl,N,g1,g2,g3⟩:=hu;refine⟨a,c,rfl,N,mA k,by grind[ob],λ_=>?_⟩;have f:=hi.ent _ _ he
  cases e with
  |live S E l'=>
   obtain⟨a1,_⟩:=f;have:=g3 (by grind);simpa [ob,k] using this
  |mp es=>
   obtain⟨a1,_⟩:=f;have:=g3 (by omega);simpa [ob,k] using this
  |gone=>grind[Ent.isLive]
 |mp k h o=>
  refine both (λu hu=>?_) o;simp only[VRel]at hu⊢;obtain⟨b,rfl,g1,g2⟩:=hu;obtain⟨e,he,hl,hv⟩:=z _ _ _ k;have f:=hi.ent _ _ he;refine⟨b,rfl,mA k,λ_=>?_⟩
  cases e with
  |live S E l'=>
   obtain⟨a1,_⟩:=f;have:=g2 (by grind)
   grind[ob]
  |mp es=>
   obtain⟨a1,_⟩:=f
   grind[ob]
  |gone=>grind[Ent.isLive]
 |Af hm ho ha h q o=>
  refine both (λu hu=>?_) o;obtain⟨a1,a2,a3,a4,a5⟩:=hi.ent _ _ hm;simp only[VRel]at hu⊢;obtain⟨a,n,c,rfl,g1,g2,g3⟩:=hu;obtain⟨rfl,rfl,rfl⟩:=g3 a1;refine⟨_,_,_,rfl,by rw[a3,ha.length],by omega,?_⟩;rcases a5 with a5|⟨J,cs,T,s,B,A,H,t⟩
  .have K:=congrArg Gae a5.2;dsimp only at K;exact .inl (Laa (by have:=ha.length;omega))
  .exact .inr ⟨J,(G.C _).2,by simp_all,ZC hi y hm rfl ho s,q.2 J _ _ t⟩
 |@fview S j v lo n a b l r hm ho hn ha h q o=>
  refine both (λu hu=>?_) o;obtain⟨a1,a2,a3,a4,a5⟩:=hi.ent _ _ hm;simp only[VRel]at hu⊢;obtain⟨p,c,rfl,M,L,I,hx⟩:=hu;have F:=ha.length;rw[List.length_take,List.length_drop]at F;refine⟨p,_,c,rfl,by omega,M,?_⟩;rcases hx a1 with rfl|⟨b,hb,rfl⟩
  .grind
  .rcases a5 with a5|⟨J,cs,T,s,B,A,H,t⟩
   .simp_all
   .rw[hb]at s;injection s with s;subst s;refine .inr ⟨_,_,rfl,ZC hi y hm rfl ho hb,q.2 _ _ _ ?_⟩
    grind[nu,lu]
 |fref hm ho hx ha h q o=>
  refine both (λu hu=>?_) o;obtain⟨a1,a2,a3,a4,a5⟩:=hi.ent _ _ hm;simp only[VRel]at hu⊢;obtain⟨p,rfl,L,I,P⟩:=hu;obtain⟨b,hb,rfl⟩:=P a1;rcases a5 with a5|⟨J,cs,T,s,B,A,H,t⟩
  .simp_all
  .rw[hb]at s;injection s with s;subst s;obtain⟨u,Q,k2,k3⟩:=Se.1 t _ _ hx;refine⟨b,_,u,rfl,ZC hi y hm rfl ho hb,first q.1 u Q,?_⟩
   grind
 |pt ha h q o=>
  refine both (λu hu=>?_) o;simp only[VRel]at hu⊢;obtain⟨b,off,x,rfl,B,hd,O⟩:=hu;exact⟨b,off,x,rfl,.inl B,first q.1 x hd,O⟩
 |fn ha hc h q ihc o=>
  refine both (λu hu=>?_) o;simp only[VRel]at hu⊢
  grind
 |ifc ha h q o=>
  refine both (λu hu=>?_) o;simp only[VRel]at hu⊢
  grind
theorem Ets.get{ρ:Mp}(h:Ets ρ m os es):os.length=es.length/\∀(i:Nat) e,es[i]?=some e->
 (∃j v u S l l',os[i]?=some (some j,v,u)/\m[j]?=some (.live S v l)/\Sbs ρ m l l'/\e=.live S u l')\/(∃S u,os[i]?=some (none,S,u)/\e=.live S u [])\/(∃j l,os[i]?=some (some j,0,0)/\m[j]?=some (.mp l)/\F9 l=true/\e=.mp l):=by
 induction h with
 |nil=>simp
 |live hm hl h a=>
  grind
 |new h a=>
  grind
 |mp hm hf h a=>
  grind
theorem Ets.src{ρ:Mp}(h:Ets ρ m os es):∀(i j:Nat) v,os[i]?=some (some j,v)->∃e:Ent,m[j]?=some e/\e.isLive=true/\(∀S a l,e=.live S a l->a=v.1):=by
 induction h with
 |nil=>simp
 |live hm hl h b=>
  intro i j v hi
  cases i with
  |zero=>
   simp only[Yaa,Vaa,Naa]at hi;obtain⟨rfl,rfl⟩:=hi;exact⟨_,hm,rfl,λS a l he=>by simp_all⟩
  |succ i=>grind
 |new h b=>
  grind
 |mp hm hf h b=>
  intro i j v hi
  cases i with
  |zero=>
   simp only[Yaa,Vaa,Naa]at hi;obtain⟨rfl,rfl⟩:=hi;exact⟨_,hm,rfl,λS a l he=>nomatch he⟩
  |succ i=>grind
theorem Jd.free{G G':Gh}{w:World}(a:∀b,G.F b->G'.F b):∀{l:List (Value×D)}{es:List MapEntry},F9 l=true->Jd G w l es->Jd G' w l es
 |[],es,_,h=>h
 |(k,d)::l,es,hf,h=>by
  simp only[F9,Kab,zaa]at hf;obtain⟨e,r,c,f,h2,g⟩:=h;exact⟨e,r,c,f,VRel.free (G':=G') ⟨λ_ h=>a _ h,λ_ _=>rfl⟩ hf.1 h2,Jd.free a hf.2 g⟩
theorem nJ{ρ:Mp}(h:(ρ.filterMap (·.1)).Nodup):∀(i a j:Nat) v b,ρ[i]?=some (some j,v)->ρ[a]?=some (some j,b)->i=a:=by
 induction ρ with
 |nil=>simp
 |cons o os ih=>
  grind
def Ww(ρ:Mp):Nat->Bool
 |0=>true
 |n+1=>Ww ρ n&&(match ρ[n]? with|some (some j,v,u)=>j==n&&decide (v<=u)|_=>false)
theorem GC{ρ:Mp}:∀{n:Nat},Ww ρ n=true->∀i,i<n->∃v u,v<=u/\ρ[i]?=some (some i,v,u)
 |0,_,i,hi=>absurd hi (mae i)
 |n+1,h,i,hi=>by
  simp only[Ww,zaa]at h;rcases Nat.lt_or_ge i n with a|a
  .exact GC h.1 i a
  grind
theorem pA{N:Nat}{ρ:Mp}{s:St}(hk:Ww ρ N=true) (h:Tell ρ s S) {a:Act}(hr:Rel G w a s):Rel (ob G s.m ρ) w a S/\StepN N G w s.m (ob G s.m ρ) w S.m:=by
 have hi:=hr.inv;have p:=h.m.src;have d:=h.m.get;have hrow:∀{l r:List D},Sbs ρ s.m l r->∀b S off,Na G w b S l off->Na (ob G s.m ρ) w b S r off:=λL=>(L.rel hi p).2;have q:∀b,Bf (ob G s.m ρ) S.m b->Bf G s.m b:=by
  rintro b ⟨i,e,he,hl,hB⟩;rcases d.2 i e he with⟨j,v,u,S',l,l',c,h2,f,rfl⟩|⟨S',u,c,rfl⟩|⟨j,l,c,h2,f,rfl⟩
  .exact⟨j,_,h2,rfl,by grind[ob]⟩
  .grind[ob]
  .exact⟨j,_,h2,rfl,by grind[ob]⟩
 refine⟨⟨(h.t.rel hi p).1 _ hr.t,⟨d.1,?_,?_,?_,hi.gl.bare λ_ h=>.inl h⟩,hr.defers⟩,⟨λ_ hb=>.inl hb,λ_ _=>rfl,?_,?_,rfl,rfl,rfl,Haa _,λ_ _ _=>rfl,?_,λb _ hb=>q b hb⟩⟩
 .rintro b (hb|hb)
  .exact hi.F b hb
  .exact(Bf.lt hi hb.1).1
 .intro i e he;rcases d.2 i e he with⟨j,v,u,S',l,l',c,h2,f,rfl⟩|⟨S',u,c,rfl⟩|⟨j,l,c,h2,f,rfl⟩
  rotate_left 2
  .obtain⟨a1,z,I,H,o,K,g,x⟩:=hi.ent _ _ h2;refine⟨by grind[ob],z,I,H,by grind[ob],?_,g,Jd.free (G':=ob G s.m ρ) (λ_ h=>Or.inl h) f x⟩;rintro(hb|⟨_,hb⟩)
   all_goals grind
  .obtain⟨a1,a2,a3,a4,a5⟩:=hi.ent _ _ h2;have hlen:=f.length;refine⟨by grind[ob],by grind[ob],by grind[ob],by grind[ob],?_⟩;rcases a5 with a5|⟨z,cs,T,o,K,g,hsz,x⟩
   .grind[ob]
   .refine .inr ⟨z,cs,T,by grind[ob],?_,g,by grind[ob],by grind[ob]⟩;rintro(hb|⟨_,hb⟩)
    all_goals grind
  .exact⟨by grind[ob],by grind[ob],by grind[ob],by simp,.inl (by grind[ob])⟩
 .intro i M e e' he A hl hl' b hb o;have src:∀(i:Nat) e,S.m[i]?=some e->(ob G s.m ρ).B i=some b->∃j v e0,ρ[i]?=some (some j,v)/\s.m[j]?=some e0/\e0.isLive=true/\G.B j=some b:=by
   intro i e he hb;rcases d.2 i e he with⟨j,v,u,S1,l,l',c,h2,f,rfl⟩|⟨S1,u,c,rfl⟩|⟨j,l,c,h2,f,rfl⟩
   .exact⟨j,_,_,c,h2,rfl,by grind[ob]⟩
   .grind[ob]
   .exact⟨j,_,_,c,h2,rfl,by grind[ob]⟩
  obtain⟨j,v,e0,c,h2,f,y⟩:=src i e he hb;obtain⟨E,O,e0',g1,g2,g3,g4⟩:=src M e' A o;have hj:j=E:=hi.apart j E _ _ h2 g2 f g3 b y g4;subst hj;exact nJ h.one _ _ _ _ _ c g1
 .cases N with
  |zero=>omega
  |succ n=>
   obtain⟨v,u,-,hv⟩:=GC hk n (eae n);exact mA hv
 .intro i C;obtain⟨v,u0,hvu,hv⟩:=GC hk i C;obtain⟨e,he,hl,hver⟩:=p _ _ _ hv;have hent:=hi.ent _ _ he;have hV:G.V i=v:=by
   rcases d.2 i _ (naa (by grind))with⟨j,O,u,S',l,l',c,h2,f,y⟩|⟨S',u,c,y⟩|⟨j,l,c,h2,f,y⟩
   .rw[hv]at c;injection c with c;injection c with k c;injection k with k;injection c with c J;subst k;subst c;exact(hi.ent _ _ h2).1
   .simp_all
   .rw[hv]at c;injection c with c;injection c with k c;injection k with k;injection c with c J;subst k;subst c;exact(hi.ent _ _ h2).1
  grind[ob]
 .rintro b _ (hb|⟨hb,_⟩)
  all_goals simp_all
theorem T.tell{N:Nat}(ρ:Mp) {c:C}{K:Exit->St->Prop}{s:St}(hk:Ww ρ N=true) (h:Tell ρ s S) (b:Tm.T P N c K S):Tm.T P N c K s:=
 T.ghost (λG w a _ hr=>⟨_,(pA hk h hr).1,(pA hk h hr).2⟩) b
variable {P:Program} {N:Nat}
inductive Ex (σ β ρ:Type) where
 |go (s:σ)
 |brk (b:β)
 |ret (v:ρ)
variable {β σ:Type}{ρ:Mp}
section
variable {σ β ρ:Type}
def Hq(step:σ->Option (Ex σ β ρ)):Nat->σ->Option (β⊕ρ)
 |0,_=>none
 |n+1,s=>
  match step s with
  |none=>none
  |some (.go s')=>Hq step n s'
  |some (.brk b)=>some (.inl b)
  |some (.ret v)=>some (.inr v)
theorem eA{step:σ->Option (Ex σ β ρ)}:∀{n:Nat}{s:σ}{r},Hq step n s=some r->∀k,Hq step (n+k) s=some r
 |0,s,r,h,k=>by grind[Hq]
 |n+1,s,r,h,k=>by
  rw[show n+1+k=(n+k)+1 by omega];simp only[Hq]at h⊢;split
  .simp_all
  .rename_i h';rw[h']at h;exact eA h k
  all_goals simp_all
open Classical in
noncomputable def ea(step:σ->Option (Ex σ β ρ)) (s:σ):Option (β⊕ρ):=
 if h:∃n r,Hq step n s=some r then some h.choose_spec.choose else none
theorem tG{step:σ->Option (Ex σ β ρ)}{s:σ}{n:Nat}{r}(h:Hq step n s=some r):ea step s=some r:=by
 have a:∃n r,Hq step n s=some r:=⟨n,r,h⟩;unfold ea;rw[dif_pos a];have h1:=eA a.choose_spec.choose_spec n
 grind[eA]
theorem eJ{step:σ->Option (Ex σ β ρ)}{s:σ}{r}:ea step s=some r↔∃n,Hq step n s=some r:=by
 grind[ea,tG]
theorem Jc{step:σ->Option (Ex σ β ρ)}{s s':σ}(h:step s=some (.go s')):ea step s=ea step s':=by
 apply Option.ext;intro r;simp only[eJ];constructor
 .rintro⟨n,hn⟩
  cases n with
  |zero=>grind[Hq]
  |succ n=>grind[Hq]
 .rintro⟨n,hn⟩;exact⟨n+1,by grind[Hq]⟩
theorem Va{step:σ->Option (Ex σ β ρ)}{s:σ}{b:β}(h:step s=some (.brk b)):ea step s=some (.inl b):=tG (n:=1) (by grind[Hq])
theorem kr{step:σ->Option (Ex σ β ρ)}{s:σ}{v:ρ}(h:step s=some (.ret v)):ea step s=some (.inr v):=tG (n:=1) (by grind[Hq])
end
inductive Tells (N:Nat):St->St->Prop
 |refl (s:St):Tells N s s
 |step {s s' S:St} (ρ:Mp) (hk:Ww ρ N=true) (h:Tell ρ s s') (t:Tells N s' S):Tells N s S
theorem Tells.one{s:St}(ρ:Mp) (hk:Ww ρ N=true) (h:Tell ρ s S):Tells N s S:=.step ρ hk h (.refl S)
theorem Tells.trans{a b c:St}(h:Tells N a b) (k:Tells N b c):Tells N a c:=by
 induction h with
 |refl=>exact k
 |step ρ hk h t d=>exact .step ρ hk h (d k)
theorem T.pH{c:C}{K:Exit->St->Prop}{s:St}(h:Tells N s S) (hT:Tm.T P N c K S):Tm.T P N c K s:=by
 induction h with
 |refl=>omega
 |step ρ hk h t ih=>grind[T.tell]
def Stb(N:Nat) (K:Exit->St->Prop):Prop:=∀s S,Tells N s S->K .normal S->K .normal s
theorem stb_S{b:C}{K:Exit->St->Prop}:Stb N (KS P N b K):=λs S h k=>T.pH h k
theorem stb_B{K:Exit->St->Prop}(h:Stb N K):Stb N (KB id K):=h
def KL{σ β ρ:Type}(N id:Nat) (K:Exit->St->Prop) (S:σ->St) (B:β->St) (z:Ex σ β ρ) (e:Exit) (s':St):Prop:=
 match e with
 |.normal=>match z with|.go x=>Tells N s' (S x)|_=>False
 |.exit j=>if j=id then(match z with|.brk b=>Tells N s' (B b)|_=>False)else K (.exit j) s'
 |e=>K e s'
section
variable {σ β ρ:Type} {id:Nat} {K:Exit->St->Prop} {S:σ->St} {B:β->St} {s':St}
theorem KL_go{x:σ}:KL N id K S B (.go x:Ex σ β ρ) .normal s'=Tells N s' (S x):=maa rfl rfl
theorem KL_brk{b:β}:KL N id K S B (.brk b:Ex σ β ρ) (.exit j) s'=if j=id then Tells N s' (B b)else K (.exit j) s':=maa rfl rfl
theorem KL_ret{z:Ex σ β ρ}:KL N id K S B z .ret s'=K .ret s':=maa rfl rfl
theorem KL_out{v:ρ}:KL N id K S B (.ret v:Ex σ β ρ) (.exit j) s'=if j=id then False else K (.exit j) s':=maa rfl rfl
theorem stb_L{z:Ex σ β ρ}:Stb N (KL N id K S B z):=by
 intro s S' h k
 cases z with
 |go x=>exact h.trans k
 |_=>exact k.elim
theorem T.ea{x:C}{s:St}(S:σ->St) (B:β->St) (step:σ->Option (Ex σ β ρ)) (x0:σ) {y:β⊕ρ}(g:Tm.ea step x0=some y) (l:Tells N s (S x0)) (f:Stb N K)
 (round:∀a z,step a=some z->(∀v,z=.ret v->y=.inr v)->Tm.T P N x (KL N id K S B z) (S a))
 (rest:∀b,y=.inl b->K .normal (B b)):Tm.T P N (.block id (.loop x)) K s:=by
 obtain⟨n,hn⟩:=eJ.1 g;clear g;refine T.block (T.loopI (X:=Nat×σ) (λp s=>Tells N s (S p.2)/\Hq step p.1 p.2=some y) (λp=>p.1) (n,x0) ⟨l,hn⟩ ?_);rintro⟨n,k⟩ s1 ⟨d,c⟩;refine T.pH d ?_
 cases n with
 |zero=>grind[Hq]
 |succ n=>
  cases i:step k with
  |none=>grind[Hq]
  |some z=>
   simp only[Hq,i]at c;refine(round k z i (λv hv=>by simp_all)).mono ?_;intro e s' h
   cases e with
   |normal=>
    cases z with
    |go m=>exact⟨(n,m),⟨by grind[KL_go],c⟩,eae n⟩
    |_=>exact(h:False).elim
   |exit j=>
    simp only[KL]at h⊢;split
    .rename_i hj;rw[if_pos hj]at h
     cases z with
     |brk b=>exact f _ _ h (rest b (Iaa c).symm)
     |_=>simp_all
    simp_all
   |ret=>exact h
   |_=>exact h
end
def KJ{X R:Type}(N:Nat) (K:Exit->St->Prop) (S:X->St) (z:X⊕R) (e:Exit) (s':St):Prop:=
 match e with
 |.normal=>match z with|.inl x=>Tells N s' (S x)|.inr _=>False
 |e=>K e s'
section
variable {X R:Type} {K:Exit->St->Prop} {S:X->St} {s':St}
theorem uI{x:X}:KJ N K S (.inl x:X⊕R) .normal s'=Tells N s' (S x):=maa rfl rfl
theorem H7{z:X⊕R}:KJ N K S z (.exit j) s'=K (.exit j) s':=maa rfl rfl
theorem KJ_ret{z:X⊕R}:KJ N K S z .ret s'=K .ret s':=maa rfl rfl
theorem stb_J{z:X⊕R}:Stb N (KJ N K S z):=by
 intro s S' h k
 cases z with
 |inl x=>exact h.trans k
 |inr _=>exact k.elim
theorem T.join{a b:C}{s:St}(S:X->St) (z:X⊕R) (ha:Tm.T P N a (KJ N K S z) s) (hb:∀x,z=.inl x->Tm.T P N b K (S x)):Tm.T P N (.seq a b) K s:=by
 refine T.seq (ha.mono ?_);intro e s' h
 cases e with
 |normal=>
  cases z with
  |inl x=>exact T.pH (by grind[uI]) (hb x rfl)
  |inr _=>exact(h:False).elim
 |_=>exact h
end
variable {P:Program}
def Den(P:Program) (k:Nat) (ds:List D) (o:D):Prop:=∀m,CallT P k ds m λd m'=>d=o/\m'=m
theorem fH{l:List D}(h:Sbs [] m l r):fa r=true:=by
 induction h<;>simp_all[fa,pa]
theorem Sbs.v{ρ:Mp}{m:List Ent}{x:Value}{l r:List D}(h:Sbs ρ m l r):Sbs ρ m (.v x::l) (.v x::r):=.same rfl h
theorem Sbs.free{ρ:Mp}{m:List Ent}:∀{l:List D},fa l=true->Sbs ρ m l l
 |[],_=>.nil
 |d::l,h=>by simp only[fa,zaa]at h;exact .same h.1 (Sbs.free h.2)
theorem Sbs.app{a b c d:List D}(f:Sbs ρ m a b) (h2:Sbs ρ m c d):Sbs ρ m (a++c) (b++d):=by
 induction f with
 |nil=>exact h2
 |same hf h e=>exact .same hf e
 |dead h e=>exact .dead e
 |nils h e=>exact .nils e
 |Hx i hi h e=>exact .Hx i hi e
 |agg ha h _ e=>exact .agg ha e
 |tup ha h _ e=>exact .tup ha e
 |sl ha h _ e=>exact .sl ha e
 |own hi h e=>exact .own hi e
 |ref hi h e=>exact .ref hi e
 |view hi h e=>exact .view hi e
 |mp hi h e=>exact .mp hi e
 |Af hm ho ha h _ e=>exact .Af hm ho ha e
 |fview hm ho hn ha h _ e=>exact .fview hm ho hn ha e
 |fref hm ho hx ha h _ e=>exact .fref hm ho hx ha e
 |pt ha h _ e=>exact .pt ha e
 |fn ha hc h _ _ e=>exact .fn ha hc e
 |ifc ha h _ e=>exact .ifc ha e
class Fr {α:Type} (e:α->D):Prop where
 h:∀x,pa (e x)=true
variable {e:Operand}
theorem YA{α:Type}{e:α->D}(h:∀x,pa (e x)=true):∀l:List α,fa (l.map e)=true
 |[]=>rfl
 |x::l=>by simp[fa,h x,YA h l]
theorem Fr.l{α:Type}{e:α->D} [Fr e] (l:List α):fa (l.map e)=true:=YA Fr.h l
theorem Fr.s{α:Type}{e:α->D} [Fr e] (S:Nat) (l:List α):pa (.sl S (l.map e))=true:=Fr.l (e:=e) l
theorem tr{N:Nat}{s:St}(h:Tells N s S):∀{G:Gh}{w:World}{a:Act},N<=G.n->Rel G w a s->∃G',Rel G' w a S/\StepN N G w s.m G' w S.m:=by
 induction h with
 |refl s=>grind[StepN.refl]
 |step ρ hk h t e=>
  intro G w a hN hr;obtain⟨b,h2⟩:=pA hk h hr;obtain⟨G',c,d⟩:=e h2.n b;exact⟨G',c,h2.trans d⟩
def Bv(rs:List RV) (o:D) (e:Exit) (s:St):Prop:=
 match e with
 |.normal=>∃S,Tells 0 s S/\∃ds,yb S rs=some ds/\Sbs [] S.m [qo ds] [o]
 |.ret=>∃S,Tells 0 s S/\∃ds,yb S rs=some ds/\Sbs [] S.m [qo ds] [o]
 |_=>False
def wM(r:Option (List D)) (m:List Ent) (o:D):Prop:=∃ds,r=some ds/\Sbs [] m [qo ds] [o]
def Fin(m:List Ent) (d o:D):Prop:=Sbs [] m [d] [o]
theorem Un{ds:List D}{o:D}:wM (some ds) m o=Fin m (qo ds) o:=by simp[wM,Fin]
@[congr] theorem endF_congr{r a:Option (List D)} {m:List Ent} {o:D} (h:r=a):wM r m o=wM a m o:=by rw[h]
theorem yp{o:D}{s:St}(h:wM (yb s rs) s.m o):Bv rs o .ret s:=by
 obtain⟨ds,a,h2⟩:=h;exact⟨s,.refl s,ds,a,h2⟩
theorem stb_F{o:D}:Stb 0 (Bv rs o):=by
 rintro s S h ⟨S',a,h2⟩;exact⟨S',h.trans a,h2⟩
theorem rF{f:FuncId}{ds:List D}{o:D}(hf:fa ds=true) (h:CallT P f ds [] λd m'=>Sbs [] m' [d] [o]):Den P f ds o:=by
 refine λm=>⟨h.1,λG w vs hv hi=>?_⟩;have l:=h.2 (Gh.bare G.F) w vs (VsRel.free (G:=G) (G':=Gh.bare G.F) ⟨λ_ h=>h,λ_ _=>rfl⟩ hf hv) (aB hi.F (hi.gl.bare λ_ h=>h));refine l.mono ?_;rintro e w' ⟨v,d,m',G',rfl,g,hvd,c,q⟩;obtain⟨-,-,p⟩:=AI hi q c (λ_ h=>h);obtain⟨g1,g2⟩:=p λ_ h=>h;refine⟨v,o,m,_,rfl,⟨rfl,rfl⟩,?_,g1,g2⟩;have k:=(g.rel c (λi j v h=>by grind)).1 [v] (by simp only[VsRel];simp_all);simp only[VsRel]at k;obtain⟨u,us,he,n,_⟩:=k;injection he with he _;subst he;have a:=fH g;simp only[fa,sac]at a;refine VRel.free (G:=ob G' m' []) (G':={ G with F:=λb=>G'.F b\/Bf G' m' b }) ⟨?_,λ_ _=>rfl⟩ a n;rintro b (hb|⟨hb,_⟩)
 all_goals simp_all
theorem Den.of{ds:List D}{o:D}(g:Hv P k=some F) (b:((P.funcs[k]?).map λfn=>fn.name == "runtime.NumGoroutine")=some false) (hf:fa ds=true)
 (h:T P 0 F.code (Bv F.results o) ⟨ds++oaa (F.ntmps-ds.length) .dead,[]⟩):Den P k ds o:=by
 refine rF hf (Uj g b ?_);refine T.zY (h.mono ?_);have key:∀(e:Exit) (s:St),(∀s',Mz F.results (λd m'=>Sbs [] m' [d] [o]) e s' = ∃ds,yb s' F.results=some ds/\Sbs [] s'.m [qo ds] [o])->(∃S,Tells 0 s S/\∃ds,yb S F.results=some ds/\Sbs [] S.m [qo ds] [o])->yL 0 (Mz F.results λd m'=>Sbs [] m' [d] [o]) e s:=by
  intro e s he ⟨S,f,h2⟩ G w a hN hr;obtain⟨G',h3,h4⟩:=tr f hN hr
  grind
 intro e s c
 cases e with
 |normal=>exact key _ s (λ_=>rfl) c
 |ret=>exact key _ s (λ_=>rfl) c
 |_=>exact(c:False).elim
theorem Sz{ds:List D}{o:D}(h:Den P k ds' o) (q:Sbs [] m ds ds') (a:flat o=true) (hf:f o m):Ye P k ds m f:=by
 refine Ub (m1:=m) (d1:=o) ⟨(h []).1,λG w vs hv hi=>?_⟩ hf;have n:=(q.rel hi (λi j v h=>by grind)).1 vs hv;have l:VsRel (Gh.bare (ob G m []).F) w ds' vs:=VsRel.free (G:=ob G m []) ⟨λ_ h=>h,λ_ _=>rfl⟩ (fH q) n;have r:=(h []).2 _ w vs l (aB (λb hb=>by
  rcases hb with hb|⟨hb,_⟩
  .exact hi.F b hb
  .exact(Bf.lt hi hb).1) (hi.gl.bare λ_ h=>.inl h))
 refine r.mono ?_;rintro e w' ⟨v,d,m',G',rfl,⟨rfl,-⟩,p,c,g⟩;obtain⟨-,h2,-⟩:=AI hi g c (λ_ h=>.inl h);exact⟨v,d,m,G,rfl,⟨rfl,rfl⟩,p.flat a,h2.1,h2.2⟩
def idx{α:Type}(l:List α) (i:Int):Option α:=if 0<=i then l[i.toNat]? else none
def app{α:Type}(b:Nat) (l r:List α):Option (List α):=if(l.length+r.length)*b<=2 ^ 47 then some (l++r)else none
def put{α:Type}(l:List α) (i:Int) (x:α):Option (List α):=if 0<=i/\i.toNat<l.length then some (l.set i.toNat x)else none
def py{α:Type}(b:Nat) (x:α) (n c:Int):Option (List α):=if 0<=n/\n<=c/\c<=2 ^ 62/\c.toNat*b<=2 ^ 48 then some (oaa n.toNat x)else none
def quo(k:IntKind) (a b:Int):Option Int:=if b=0 then none else some (aa k (a.tdiv b))
def rem(k:IntKind) (a b:Int):Option Int:=if b=0 then none else some (a.tmod b)
theorem iy{α:Type}{l:List α}{i:Int}{x:α}(h:idx l i=some x):0<=i/\l[i.toNat]?=some x:=by
 grind[idx]
theorem WX{α:Type}{b:Nat}{l r x:List α}(h:app b l r=some x):(l.length+r.length)*b<=140737488355328/\x=l++r:=by
 grind[app]
theorem K2{α:Type}{l x:List α}{i:Int}{y:α}(h:put l i y=some x):0<=i/\i.toNat<l.length/\x=l.set i.toNat y:=by
 grind[put]
theorem V0{α:Type}{b:Nat}{x:α}{n c:Int}{l:List α}(h:py b x n c=some l):0<=n/\n<=c/\c<=4611686018427387904/\c.toNat*b<=281474976710656/\l=oaa n.toNat x:=by
 grind[py]
theorem Ni{α:Type}{o:Option α}{f:α->Option β}{r:β}(h:o.bind f=some r):∃x,o=some x/\f x=some r:=jac.1 h
variable {P:Program} {N:Nat}
def Nz(f:D->D->Prop):List D->List D->Prop
 |[],[]=>True
 |d::l,e::r=>f d e/\Nz f l r
 |_,_=>False
def gx(f:D->D->Prop) (a b:List D):Prop:=(a=b/\fa a=true)\/Nz f a b
def Sq(ρ:Mp) (m:List Ent):Nat->D->D->Prop
 |0,_,_=>False
 |n+1,d,e=>
  match e with
  |.dead=>True
  |.v y=>match d with|.v x=>x=y|_=>False
  |.agg b=>match d with|.agg a=>gx (Sq ρ m n) a b|_=>False
  |.tup b=>match d with|.tup a=>gx (Sq ρ m n) a b|_=>False
  |.sl S b=>
   match d with
   |.v x=>x=.slice none 0 0/\b=[]
   |.sl S' a=>S'=S/\gx (Sq ρ m n) a b
   |.own j v=>
    match m[j]? with
    |some (.live S' g a)=>S'=S/\g=v/\lr ρ j=true/\gx (Sq ρ m n) a b
    |_=>False
   |.view j v lo k=>
    match m[j]? with
    |some (.live S' g a)=>S'=S/\g=v/\lr ρ j=true/\lo+k<=a.length/\gx (Sq ρ m n) ((a.drop lo).take k) b
    |_=>False
   |_=>False
  |.own i u=>
   match d with
   |.own j v=>ρ[i]?=some (some j,v,u)
   |.v x=>x=.slice none 0 0/\∃S,ρ[i]?=some (none,S,u)
   |_=>False
  |.ref i u x s=>match d with|.ref j v p s'=>ρ[i]?=some (some j,v,u)/\p=x/\s'=s|_=>False
  |.view i u lo k=>match d with|.view j v h o=>ρ[i]?=some (some j,v,u)/\h=lo/\o=k|_=>False
  |.pt e'=>
   match d with
   |.pt d'=>(d'=e'/\pa d'=true)\/Sq ρ m n d' e'
   |.ref j v x s=>
    match m[j]? with
    |some (.live _ g a)=>g=v/\s=0/\lr ρ j=true/\(match a[x]? with|some d'=>(d'=e'/\pa d'=true)\/Sq ρ m n d' e'|none=>False)
    |_=>False
   |_=>False
  |.fn f b d'=>match d with|.fn l a c=>l=f/\gx (Sq ρ m n) a b/\gx (Sq ρ m n) c d'|_=>False
  |.mp i=>match d with|.mp j=>ρ[i]?=some (some j,0,0)|_=>False
  |.ifc t e'=>match d with|.ifc t' d'=>t'=t/\((d'=e'/\pa d'=true)\/Sq ρ m n d' e')|_=>False
theorem Yu{ρ:Mp}{m:List Ent}{f:D->D->Prop}(hf:∀d e l r,f d e->Sbs ρ m l r->Sbs ρ m (d::l) (e::r)):∀{a b:List D},Nz f a b->Sbs ρ m a b
 |[],[],_=>.nil
 |d::l,e::r,h=>hf d e l r h.1 (Yu hf h.2)
 |[],_::_,h=>h.elim
 |_::_,[],h=>h.elim
theorem Zu{f:D->D->Prop}(hf:∀d e l r,f d e->Sbs ρ m l r->Sbs ρ m (d::l) (e::r)) {a b:List D}(h:gx f a b):Sbs ρ m a b:=by
 rcases h with⟨rfl,h⟩|h
 all_goals grind[Sbs.free,Yu]
theorem tu{ρ:Mp}{m:List Ent}:∀(n:Nat) (d e:D) (l r:List D),Sq ρ m n d e->Sbs ρ m l r->Sbs ρ m (d::l) (e::r)
 |0,d,e,l,r,h,_=>h.elim
 |n+1,d,e,l,r,h,c=>by
  have g:=tu (ρ:=ρ) (m:=m) n;have one:∀d' e',((d'=e'/\pa d'=true)\/Sq ρ m n d' e')->Sbs ρ m [d'] [e']:=by
   rintro d' e' (⟨rfl,h⟩|h)
   .exact .same h .nil
   .exact g _ _ _ _ h .nil
  cases e with
  |dead=>exact .dead c
  |v y=>cases d<;>simp only[Sq]at h;subst h;exact .v c
  |agg b=>cases d<;>simp only[Sq]at h;exact .agg (Zu g h) c
  |tup b=>cases d<;>simp only[Sq]at h;exact .tup (Zu g h) c
  |sl S b=>
   cases d with
   |v x=>simp only[Sq]at h;obtain⟨rfl,rfl⟩:=h;exact .nils c
   |sl S' a=>simp only[Sq]at h;obtain⟨rfl,h⟩:=h;exact .sl (Zu g h) c
   |own j v=>
    simp only[Sq]at h;split at h
    .rename_i S' o a hm;obtain⟨rfl,rfl,ho,h⟩:=h;exact .Af hm ho (Zu g h) c
    simp_all
   |view j v lo k=>
    simp only[Sq]at h;split at h
    .rename_i S' o a hm;obtain⟨rfl,rfl,ho,hl,h⟩:=h;exact .fview hm ho hl (Zu g h) c
    simp_all
   |_=>simp only[Sq]at h
  |own i u=>
   cases d with
   |own j v=>simp only[Sq]at h;exact .own h c
   |v x=>simp only[Sq]at h;obtain⟨rfl,S,h⟩:=h;exact .Hx i h c
   |_=>simp only[Sq]at h
  |ref i u x s=>cases d<;>simp only[Sq]at h;obtain⟨h,rfl,rfl⟩:=h;exact .ref h c
  |view i u lo k=>cases d<;>simp only[Sq]at h;obtain⟨h,rfl,rfl⟩:=h;exact .view h c
  |pt e'=>
   cases d with
   |pt d'=>simp only[Sq]at h;exact .pt (one _ _ h) c
   |ref j v x s=>
    simp only[Sq]at h;split at h
    .rename_i S' o a hm;obtain⟨rfl,rfl,ho,h⟩:=h;split at h
     .rename_i d' hd;exact .fref hm ho hd (one _ _ h) c
     simp_all
    simp_all
   |_=>simp only[Sq]at h
  |fn f b d'=>cases d<;>simp only[Sq]at h;obtain⟨rfl,p,h2⟩:=h;exact .fn (Zu g p) (Zu g h2) c
  |mp i=>cases d<;>simp only[Sq]at h;exact .mp h c
  |ifc t e'=>cases d<;>simp only[Sq]at h;obtain⟨rfl,h⟩:=h;exact .ifc (one _ _ h) c
def cC(ρ:Mp) (m:List Ent):Mp->List Ent->Prop
 |[],[]=>True
 |(some j,v,u)::os,.live S c b::es=>u=c/\(match m[j]? with|some (.live S' d a)=>S'=S/\d=v/\gx (Sq ρ m 9) a b|_=>False)/\cC ρ m os es
 |(none,S,u)::os,.live S' c b::es=>S=S'/\u=c/\b=[]/\cC ρ m os es
 |(some j,v,u)::os,.mp b::es=>v=0/\u=0/\(match m[j]? with|some (.mp a)=>a=b/\F9 b=true|_=>False)/\cC ρ m os es
 |_,_=>False
theorem xE{ρ:Mp}{m:List Ent}:∀{os:Mp}{es:List Ent},cC ρ m os es->Ets ρ m os es
 |[],[],_=>.nil
 |(some j,v,u)::os,.live S d b::es,h=>by
  simp only[cC]at h;obtain⟨rfl,c,h2⟩:=h;split at c
  .rename_i S' v' a hm;obtain⟨rfl,rfl,c⟩:=c;exact .live hm (Zu (tu 9) c) (xE h2)
  simp_all
 |(none,S,u)::os,.live S' d b::es,h=>by
  simp only[cC]at h;obtain⟨rfl,rfl,rfl,h2⟩:=h;exact .new (xE h2)
 |[],_::_,h=>by simp[cC]at h
 |_::_,[],h=>by simp[cC]at h
 |(some j,v,u)::os,.mp b::es,h=>by
  simp only[cC]at h;obtain⟨rfl,rfl,c,h2⟩:=h;split at c
  .rename_i a hm;obtain⟨rfl,c⟩:=c;exact .mp hm c (xE h2)
  simp_all
 |(some j,v,u)::os,.gone::es,h=>by simp[cC]at h
 |(none,S,u)::os,.mp _::es,h=>by simp[cC]at h
 |(none,S,u)::os,.gone::es,h=>by simp[cC]at h
theorem Tells.q(ρ:Mp) {s:St}(hk:Ww ρ N=true) (a:(ρ.filterMap (·.1)).Nodup) (h:Nz (Sq ρ s.m 9) s.t S.t/\cC ρ s.m ρ S.m):Tells N s S:=
 .one ρ hk ⟨Yu (tu 9) h.1,xE h.2,a⟩
section
variable {ρ:Mp} {m:List Ent} {n:Nat} {d e:D} {a b c l r:List D} {x y:Value} {S S' i j u v k lo q s:Nat}
theorem sqL_nil{f:D->D->Prop}:Nz f [] []=True:=maa rfl rfl
theorem W4{f:D->D->Prop}:Nz f (d::l) (e::r)=(f d e/\Nz f l r):=maa rfl rfl
theorem ph{f:D->D->Prop}(h:fa a=true):gx f a a=True:=by simp[gx,h]
theorem sqS_L{f:D->D->Prop}:gx f (d::l) (e::r)=(((d::l=e::r)/\fa (d::l)=true)\/(f d e/\Nz f l r)):=maa rfl rfl
theorem sqS_nil{f:D->D->Prop}:gx f [] []=True:=by simp[gx,fa]
theorem sq_dead:Sq ρ m (n+1) d .dead=True:=maa rfl rfl
theorem sq_v:Sq ρ m (n+1) (.v x) (.v y)=(x=y):=maa rfl rfl
theorem sq_agg:Sq ρ m (n+1) (.agg a) (.agg b)=gx (Sq ρ m n) a b:=maa rfl rfl
theorem sq_tup:Sq ρ m (n+1) (.tup a) (.tup b)=gx (Sq ρ m n) a b:=maa rfl rfl
theorem sq_nils:Sq ρ m (n+1) (.v x) (.sl S b)=(x=.slice none 0 0/\b=[]):=maa rfl rfl
theorem sq_sl:Sq ρ m (n+1) (.sl S' a) (.sl S b)=(S'=S/\gx (Sq ρ m n) a b):=maa rfl rfl
theorem sq_froz:Sq ρ m (n+1) (.own j v) (.sl S b)=(match m[j]? with|some (.live S' c a)=>S'=S/\c=v/\lr ρ j=true/\gx (Sq ρ m n) a b|_=>False):=maa rfl rfl
theorem Y4:Sq ρ m (n+1) (.view j v lo k) (.sl S b)=(match m[j]? with|some (.live S' c a)=>S'=S/\c=v/\lr ρ j=true/\lo+k<=a.length/\gx (Sq ρ m n) ((a.drop lo).take k) b|_=>False):=maa rfl rfl
theorem sq_own:Sq ρ m (n+1) (.own j v) (.own i u)=(ρ[i]?=some (some j,v,u)):=maa rfl rfl
theorem X4:Sq ρ m (n+1) (.v x) (.own i u)=(x=.slice none 0 0/\∃S,ρ[i]?=some (none,S,u)):=maa rfl rfl
theorem sq_ref:Sq ρ m (n+1) (.ref j v q s) (.ref i u k lo)=(ρ[i]?=some (some j,v,u)/\q=k/\s=lo):=maa rfl rfl
theorem sq_view{a b:Nat}:Sq ρ m (n+1) (.view j v a b) (.view i u lo k)=(ρ[i]?=some (some j,v,u)/\a=lo/\b=k):=maa rfl rfl
theorem sq_pt:Sq ρ m (n+1) (.pt d) (.pt e)=((d=e/\pa d=true)\/Sq ρ m n d e):=maa rfl rfl
theorem sq_fref:Sq ρ m (n+1) (.ref j v q s) (.pt e)=(match m[j]? with
 |some (.live _ b a)=>b=v/\s=0/\lr ρ j=true/\(match a[q]? with|some d'=>(d'=e/\pa d'=true)\/Sq ρ m n d' e|none=>False)
 |_=>False):=maa rfl rfl
theorem sq_fn{f d:FuncId}{d':List D}:Sq ρ m (n+1) (.fn d a c) (.fn f b d')=(d=f/\gx (Sq ρ m n) a b/\gx (Sq ρ m n) c d'):=maa rfl rfl
theorem et_nil:cC ρ m [] []=True:=maa rfl rfl
theorem Y8{c:Nat}:cC ρ m ((some j,v,u)::os) (.live S c b::es)=(u=c/\(match m[j]? with|some (.live S' d a)=>S'=S/\d=v/\gx (Sq ρ m 9) a b|_=>False)/\cC ρ m os es):=by simp only[cC]
theorem et_new{a:Nat}:cC ρ m ((none,S,u)::os) (.live S' a b::es)=(S=S'/\u=a/\b=[]/\cC ρ m os es):=by simp only[cC]
theorem sq_mp:Sq ρ m (n+1) (.mp j) (.mp i)=(ρ[i]?=some (some j,0,0)):=maa rfl rfl
theorem et_mp{b:List (Value×D)}:cC ρ m ((some j,v,u)::os) (.mp b::es)=(v=0/\u=0/\(match m[j]? with|some (.mp a)=>a=b/\F9 b=true|_=>False)/\cC ρ m os es):=by simp only[cC]
theorem G9:F9 []=true:=maa rfl rfl
theorem U1:lr [] j=true:=maa rfl rfl
theorem WV{o:Option Nat×Nat×Nat}:lr (o::ρ) j=((match o.1 with|some k=>k !=j|none=>true)&&lr ρ j):=maa rfl rfl
end
theorem AD{d o:D}(h:Sq [] m 9 d o):Fin m d o:=tu 9 d o [] [] h .nil
theorem HB{l:List D}(h:Sbs [] [] l r):(∀us,VsRel G w l us->VsRel G w r us)/\(∀b S off,Na G w b S l off->Na G w b S r off):=by
 have both:∀{d e:D} {l r:List D},(∀u,VRel G w d u->VRel G w e u)->
  ((∀us,VsRel G w l us->VsRel G w r us)/\(∀b S off,Na G w b S l off->Na G w b S r off))->
  ((∀us,VsRel G w (d::l) us->VsRel G w (e::r) us)/\(∀b S off,Na G w b S (d::l) off->Na G w b S (e::r) off)):=by
  intro d e l r h1 h2;refine⟨λus hv=>?_,λb S off hv=>?_⟩
  .simp only[VsRel]at hv⊢
   grind
  .simp only[Na]at hv⊢
   grind
 have first:∀{d e:D},(∀us,VsRel G w [d] us->VsRel G w [e] us)->∀u,VRel G w d u->VRel G w e u:=by
  intro d e h u hu;have:=h [u] (by simp only[VsRel];simp_all);simp only[VsRel]at this
  simp_all
 induction h with
 |nil=>simp
 |same hf h c=>exact both (λu hu=>hu) c
 |dead h c=>exact both (λu _=>by simp[VRel]) c
 |nils h c=>exact both (λu hu=>by simp only[VRel]at hu⊢;grind) c
 |agg ha h f c=>
  refine both (λu hu=>?_) c;simp only[VRel]at hu⊢
  grind
 |tup ha h f c=>
  refine both (λu hu=>?_) c;simp only[VRel]at hu⊢
  grind
 |sl ha h f c=>
  refine both (λu hu=>?_) c;simp only[VRel]at hu⊢;obtain⟨a,n,cap,rfl,hn,hc,g⟩:=hu;refine⟨a,n,cap,rfl,by rw[←ha.length];omega,hc,?_⟩;rcases g with rfl|⟨b,off,rfl,hF,hr⟩
  .exact .inl (Laa ha.length.symm)
  grind
 |pt ha h f c=>
  refine both (λu hu=>?_) c;simp only[VRel]at hu⊢
  grind
 |fn ha hc h f ihc c=>
  refine both (λu hu=>?_) c;simp only[VRel]at hu⊢
  grind
 |ifc ha h f c=>
  refine both (λu hu=>?_) c;simp only[VRel]at hu⊢
  grind
 |Hx i hi=>simp at hi
 |own hi=>simp at hi
 |ref hi=>simp at hi
 |view hi=>simp at hi
 |mp hi=>simp at hi
 |Af hm=>simp at hm
 |fview hm=>simp at hm
 |fref hm=>simp at hm
theorem vE{ds:List D}{o:D}(h:Den P k ds' o) (hf:f o m) (a:Nz (Sq [] [] 9) ds ds'):Ye P k ds m f:=
 Ub (m1:=m) (d1:=o) ⟨(h m).1,λG w vs hv hi=>(h m).2 G w vs ((HB (Yu (tu 9) a)).1 vs hv) hi⟩ hf
theorem tF{ds:List D}{o:D}(h:Den P k ds' o) (hf:f o m) (a:flat o=true) (b:Nz (Sq [] m 9) ds ds'):Ye P k ds m f:=
 Sz h (Yu (tu 9) b) a hf
section
variable {K:Exit->St->Prop} {s:St} {l:List RI} {a b:C} {c:Operand} {t:Bool} {id q:Nat}
theorem T.rg(h:zh P l (K .normal) s):Tm.T P N (.QK l) K s:=T.QK (Xs h)
theorem T.cd(ht:s.ev c=.v (.bool t)) (h:gP (t=true) (Tm.T P N a K s) (Tm.T P N b K s)):Tm.T P N (.cond c a b) K s:=
 T.cond ht (λe=>h.1 e) (λe=>h.2 (by grind))
theorem T.bk(h:Tm.T P N a (KB id K) s):Tm.T P N (.block id a) K s:=T.block (h.mono λe s' h'=>by cases e<;>exact h')
theorem T.sr(h:zh P l (KS P N b K .normal) s):Tm.T P N (.seq (.QK l) b) K s:=T.Dk (T.rg h)
theorem gP.ite{q N:Prop} [Decidable q] {α:Type}{A B:Option α}{r:α}(h:(if q then A else B)=some r) (a:p↔q) (d:q->A=some r->Y) (h2:¬q->B=some r->N):gP p Y N:=by
 by_cases c:q
 .rw[if_pos c]at h;exact⟨λ_=>d c h,λb=>(b (a.2 c)).elim⟩
 .rw[if_neg c]at h;exact⟨λb=>(c (a.1 b)).elim,λ_=>h2 c h⟩
end
def ds:Nat->List D->List D
 |0,l=>l
 |n+1,l=>.dead::ds n l
theorem Sk{l:List D}:ds 0 l=l:=maa rfl rfl
theorem Ij{n:Nat}{l:List D}:ds (n+1) l=.dead::ds n l:=maa rfl rfl
theorem rpS{α:Type}{a:α}:oaa 1 a=[a]/\oaa 2 a=[a,a]/\oaa 3 a=[a,a,a]/\oaa 55 a=[a,a,a,a,a,a,a,a,a,a,a,a,a,a,a,a,a,a,a,a,a,a,a,a,a,a,a,a,a,a,a,a,a,a,a,a,a,a,a,a,a,a,a,a,a,a,a,a,a,a,a,a,a,a,a]:=⟨rfl,rfl,rfl,rfl⟩
variable {P:Program} {N:Nat}
def mB(ok:Bool) (z:D) (m:List Ent) (o:Option D):Option (D×List Ent):=
 match o with
 |some d=>some (if ok then .tup [d,.v (.bool true)]else d,m)
 |none=>some (if ok then .tup [z,.v (.bool false)]else z,m)
def Hz{β:Type}:List (Int×β)->Int->Option β
 |[],_=>none
 |(q,x)::l,k=>if k=q then some x else Hz l k
def jI{β:Type}(k:Int) (x:β):List (Int×β)->List (Int×β)
 |[]=>[(k,x)]
 |(q,y)::l=>if k=q then(k,x)::l else(q,y)::jI k x l
def em{β:Type}(e:β->D) (l:List (Int×β)):List (Value×D):=l.map λp=>(.int .i64 p.1,e p.2)
theorem zS{β:Type}{e:β->D}{k:Int}:∀{l:List (Int×β)},so (.int .i64 k) (em e l)=(Hz l k).map e
 |[]=>maa rfl rfl
 |(q,x)::l=>by
  have a:=zS (e:=e) (k:=k) (l:=l);simp only[em]at a;simp only[em,vaa,so,Bp,Hz,beq_iff_eq,a];split<;>rfl
theorem NK{β:Type}{e:β->D}{k:Int}{x:β}:∀{l:List (Int×β)},Is (.int .i64 k) (e x) (em e l)=em e (jI k x l)
 |[]=>maa rfl rfl
 |(q,y)::l=>by
  have a:=NK (e:=e) (k:=k) (x:=x) (l:=l);simp only[em]at a;simp only[em,vaa,Is,Bp,jI,beq_iff_eq,a];split<;>rfl
theorem all_em{e:β->D}{l:List (Int×β)}:((em e l).all λq=>isKey 0 q.1)=true:=by
 simp[em,isKey]
theorem em_nil{e:β->D}:em e []=[]:=maa rfl rfl
theorem em_len{e:β->D}{l:List (Int×β)}:(em e l).length=l.length:=by simp[em]
theorem xK{e:β->D} [Fr e] {l:List (Int×β)}:F9 (em e l)=true:=by
 simp only[F9,em,List.all_map,Xaa];exact λx _=>Fr.h x.2
theorem faa{k:Int}:isKey 0 (.int .i64 k)=true:=maa rfl rfl
def Nw(b:ByteArray) (i:Int):Option Int:=if h:0<=i/\i.toNat<b.size then some ((b[i.toNat]'h.2).toNat:Int)else none
def fu:Nat->List D->Bool
 |0,[]=>true
 |n+1,_::l=>fu n l
 |_,_=>false
theorem jr:∀{n:Nat}{l:List D},fu n l=true↔l.length=n
 |0,[]=>by simp[fu]
 |n+1,_::l=>by simp[fu,jr (n:=n) (l:=l)]
 |0,_::_=>by simp[fu]
 |_+1,[]=>by simp[fu]
def gy:Nat->Nat->List D->Bool
 |0,0,_=>true
 |0,n+1,_::l=>gy 0 n l
 |o+1,n,_::l=>gy o n l
 |_,_,[]=>false
theorem Zr:∀{o n:Nat}{l:List D},gy o n l=true↔o+n<=l.length
 |0,0,l=>by simp[gy]
 |0,n+1,_::l=>by simp[gy,Zr (o:=0) (n:=n) (l:=l)]
 |o+1,n,_::l=>by simp[gy,Zr (o:=o) (n:=n) (l:=l)];omega
 |0,n+1,[]=>by simp[gy]
 |o+1,n,[]=>by simp[gy]
theorem li_nil:fu 0 []=true:=maa rfl rfl
theorem li_cons{n:Nat}{d:D}{l:List D}:fu (n+1) (d::l)=fu n l:=maa rfl rfl
theorem h2_z{l:List D}:gy 0 0 l=true:=by cases l<;>rfl
theorem h2_n{n:Nat}{d:D}{l:List D}:gy 0 (n+1) (d::l)=gy 0 n l:=maa rfl rfl
theorem h2_o{o n:Nat}{d:D}{l:List D}:gy (o+1) n (d::l)=gy o n l:=by cases n<;>rfl
theorem q_mv:type_of% @da.eq_1:=by intros;exact maa rfl rfl
theorem q_pick:type_of% @da.eq_2:=by intros;exact maa rfl rfl
theorem q_bin:type_of% @da.eq_3:=by intros;exact maa rfl rfl
theorem q_beq:type_of% @da.eq_4:=by intros;exact maa rfl rfl
theorem q_un:type_of% @da.eq_5:=by intros;exact maa rfl rfl
theorem q_conv:type_of% @da.eq_6:=by intros;exact maa rfl rfl
theorem q_alloc:type_of% @da.eq_7:=by intros;exact maa rfl rfl
theorem q_box{s:St}{S:Nat}:da s (.box S x)=if(s.ev x).ok=true/\fu S (s.ev x).cells=true then some (.ref s.m.length 0 0 0,s.m++[.live S 0 [s.ev x]])else none:=by simp only[jr,Zr];rfl
theorem q_build:type_of% @da.eq_9:=by intros;exact maa rfl rfl
theorem N2:type_of% @da.eq_10:=by intros;exact maa rfl rfl
theorem q_load{s:St}{A:Bool}{n:Nat}:da s (.load A n x) =
 match s.ev x with
 |.pt d=>
  match A,d with
  |true,.agg l=>if fu n l=true then some (d,s.m)else none
  |true,_=>none
  |false,.agg _=>none
  |false,d=>if d.ok=true then some (d,s.m)else none
 |.ref id Ma idx sub=>
  match s.m[id]? with
  |some (.live _ a l)=>if a=Ma then(l[idx]?).bind λd=>if d.ok=true then(part A n sub d.cells).map λr=>(r,s.m)else none else none
  |_=>none
 |_=>none:=by simp only[jr,Zr];rfl
theorem q_store{s:St}{n:Nat}{y:Operand}:da s (.store n x y) =
 match s.ev x with
 |.ref id Ma idx sub=>
  match s.m[id]? with
  |some (.live S a l)=>
   if a=Ma/\(s.ev y).ok=true/\fu n (s.ev y).cells=true then
    (l[idx]?).bind λd=>if d.ok=true/\0<n/\gy sub n d.cells=true then some (.dead,s.m.set id (.live S a (l.set idx (d.Uf sub (s.ev y).cells))))else none
   else none
  |_=>none
 |_=>none:=by simp only[jr,Zr];rfl
theorem q_nilc:type_of% @da.eq_13:=by intros;exact maa rfl rfl
theorem q_slice:type_of% @da.eq_14:=by intros;exact maa rfl rfl
theorem q_faddr:type_of% @da.eq_15:=by intros;exact maa rfl rfl
theorem q_field:type_of% @da.eq_16:=by intros;exact maa rfl rfl
theorem q_iaddr:type_of% @da.eq_17:=by intros;exact maa rfl rfl
theorem q_aaddr:type_of% @da.eq_18:=by intros;exact maa rfl rfl
theorem q_index:type_of% @da.eq_19:=by intros;exact maa rfl rfl
theorem bW:type_of% @da.eq_20:=by intros;exact maa rfl rfl
theorem q_len:type_of% @da.eq_21:=by intros;exact maa rfl rfl
theorem q_slen:type_of% @da.eq_22:=by intros;exact maa rfl rfl
theorem L2:type_of% @da.eq_23:=by intros;exact maa rfl rfl
theorem cW:type_of% @da.eq_24:=by intros;exact maa rfl rfl
theorem O2:type_of% @da.eq_25:=by intros;exact maa rfl rfl
theorem q_fail:type_of% @da.eq_26:=by intros;exact maa rfl rfl
theorem q_mm:type_of% @da.eq_27:=by intros;exact maa rfl rfl
theorem q_ceq:type_of% @da.eq_28:=by intros;exact maa rfl rfl
theorem q_strb:type_of% @da.eq_29:=by intros;exact maa rfl rfl
theorem q_sidx{s:St}{i:Operand}:da s (.Nw x i)=(match s.ev x,s.ev i with
 |.v (.string b),.v (.int _ k)=>(Nw b k).map λn=>(D.v (.int .u8 n),s.m)
 |_,_=>none):=by
 simp only[da];generalize s.ev x=a;generalize s.ev i=c;split
 .rename_i b k' k;by_cases h:0<=k/\k.toNat<b.size<;>simp[Nw,h]
 .rename_i hx;split
  .exact(hx _ _ _ rfl rfl).elim
  .rfl
theorem P2:type_of% @da.eq_31:=by intros;exact maa rfl rfl
theorem q_mkmap:type_of% @da.eq_32:=by intros;exact maa rfl rfl
theorem q_mlook{s:St}{K:Nat}{ok:Bool}{z:D}{k:Operand}:da s (.mlook K ok z x k) =
 match s.ev k with
 |.v a=>
  if isKey K a=true then
   match s.ev x with
   |.v (.map none)=>some (if ok then .tup [z,.v (.bool false)]else z,s.m)
   |.mp id=>
    match s.m[id]? with
    |some (.mp es)=>
     if(es.all λe=>isKey K e.1)=true then
      mB ok z s.m (so a es)
     else none
    |_=>none
   |_=>none
  else none
 |_=>none:=by
 simp only[da,mB];rfl
theorem q_mput:type_of% @da.eq_34:=by intros;exact maa rfl rfl
theorem q_mlen:type_of% @da.eq_35:=by intros;exact maa rfl rfl
theorem q_trunc:type_of% @da.eq_36:=by intros;exact maa rfl rfl
theorem q_mkifc:type_of% @da.eq_37:=by intros;exact maa rfl rfl
theorem dW:type_of% @da.eq_38:=by intros;exact maa rfl rfl
theorem q_clr:type_of% @da.eq_39:=by intros;exact maa rfl rfl
theorem q_capn:type_of% @da.eq_40:=by intros;exact maa rfl rfl
theorem q_nileq:type_of% @da.eq_41:=by intros;exact maa rfl rfl
theorem q_mkapp:type_of% @da.eq_42:=by intros;exact maa rfl rfl
def gQ(p:Prop) (a:St->Prop) (s1:St) (b:St->Prop) (s2:St):Prop:=gP p (a s1) (b s2)
theorem gQ_T{a b:St->Prop}:gQ True a s1 b s2=a s1:=gP_T
theorem gQ_F{b a:St->Prop}:gQ False b s1 a s2=a s2:=gP_F
def gD(d:D) (b:Bool) (e:St->Prop) (s1:St) (a:St->Prop) (s2 s0:St):Prop:=
 match d with
 |.v (.bool c)=>gQ (c=b) e s1 a s2
 |.v _=>a s0
 |_=>False
theorem H9{c b:Bool}{a d:St->Prop}:gD (.v (.bool c)) b a s1 d s2 s0=gQ (c=b) a s1 d s2:=maa rfl rfl
theorem I9{b:Bool}{c a:St->Prop}:gD (.v (.tuple #[])) b c s1 a s2 s0=a s0:=maa rfl rfl
theorem xZ{b:Bool}{c a:St->Prop}:gD (.v undef) b c s1 a s2 s0=a s0:=maa rfl rfl
section
variable {t:List D} {m:List Ent} {i:Nat} {b:Bool} {dst:Option Tmp} {l:List RI} {K:St->Prop} {ins:I} {k q:Nat} {args:List Operand}
theorem LX:zh P (.op dst (some (i,b)) ins::l) K ⟨t,m⟩=gD (t.getD i .dead) b (zh P (.op dst none ins::l) K) ⟨t.set i (.v (.bool b)),m⟩ (zh P l K) (St.put ⟨t.set i (.v (.bool (!b))),m⟩ dst (.v undef)) (St.put ⟨t,m⟩ dst (.v undef)):=by
 rw[MX];simp only[gate,gD,gQ,Cx,kR]
 cases h:t.getD i .dead with
 |v x=>cases x<;>simp[gP]<;>cases b<;>simp
 |_=>rfl
theorem QO:zh P (.call dst (some (i,b)) (.func k) args::l) K ⟨t,m⟩=gD (t.getD i .dead) b (zh P (.call dst none (.func k) args::l) K) ⟨t.set i (.v (.bool b)),m⟩ (zh P l K) (St.put ⟨t.set i (.v (.bool (!b))),m⟩ dst (.v undef)) (St.put ⟨t,m⟩ dst (.v undef)):=by
 rw[GL];simp only[gate,gD,gQ,Cx,aF]
 cases h:t.getD i .dead with
 |v x=>cases x<;>simp[gP]<;>cases b<;>simp
 |_=>rfl
theorem yZ{t:List D}{i:Nat}{b c:Bool}(h:t.getD i .dead=.v (.bool c)) {Y N:List D->Prop}:gP (c=b) (Y t) (N t)=gP (c=b) (Y (t.set i (.v (.bool b)))) (N (t.set i (.v (.bool (!b))))):=by
 have a:=JB h (by simp);by_cases hc:c=b
 .subst hc;rw[a];simp[gP]
 .have:(!b)=c:=by cases b<;>cases c<;>simp_all
  rw[this,a];simp[gP,hc]
theorem RO:zh P (.call dst none (.tmp i) args::l) K ⟨t,m⟩=(match t.getD i .dead with|.fn k first caps=>Ye P k (first++args.map (St.ev ⟨t,m⟩)++caps) m (KO (zh P l K) ⟨t,m⟩ dst)|_=>False):=by
 simp only[zh,gate,St.ec,St.ev]
 first|done|(cases t.getD i .dead<;>rfl)
theorem E7:ow P (q+1) (.op dst (some (i,b)) ins::l) K ⟨t,m⟩=gD (t.getD i .dead) b (ow P (q+1) (.op dst none ins::l) K) ⟨t.set i (.v (.bool b)),m⟩ (ow P q l K) (St.put ⟨t.set i (.v (.bool (!b))),m⟩ dst (.v undef)) (St.put ⟨t,m⟩ dst (.v undef)):=by
 rw[F7];simp only[gate,gD,gQ,zX]
 cases h:t.getD i .dead with
 |v x=>
  cases x with
  |bool c=>exact yZ h (Y:=λt=>Pp (da ⟨t,m⟩ ins) (KO (ow P q l K) ⟨t,m⟩ dst)) (N:=λt=>ow P q l K (St.put ⟨t,m⟩ dst (.v undef)))
  |_=>cases b<;>simp[gP]
 |_=>rfl
theorem NT:ow P (q+1) (.call dst (some (i,b)) (.func k) args::l) K ⟨t,m⟩=gD (t.getD i .dead) b (ow P (q+1) (.call dst none (.func k) args::l) K) ⟨t.set i (.v (.bool b)),m⟩ (ow P q l K) (St.put ⟨t.set i (.v (.bool (!b))),m⟩ dst (.v undef)) (St.put ⟨t,m⟩ dst (.v undef)):=by
 rw[PO];simp only[gate,gD,gQ,sI]
 cases h:t.getD i .dead with
 |v x=>
  cases x with
  |bool c=>exact yZ h (Y:=λt=>CI P k (args.map (St.ev ⟨t,m⟩)) (ow P q l K) ⟨t,m⟩ dst) (N:=λt=>ow P q l K (St.put ⟨t,m⟩ dst (.v undef)))
  |_=>cases b<;>simp[gP]
 |_=>rfl
end
section
variable {t:List D} {m m':List Ent} {i:Nat} {x:Value} {f:FuncId} {g:Nat} {b c:Bool} {d d':D} {k n:Nat} {R:St->Prop} {o:Operand} {s:St}
theorem st_tmp:St.ev ⟨t,m⟩ (.tmp i)=t.getD i .dead:=maa rfl rfl
theorem Z4:St.ev s (.const x)=.v x:=maa rfl rfl
theorem st_func:St.ev s (.func f)=.fn f [] []:=maa rfl rfl
theorem aW:St.put ⟨t,m⟩ (some i) d=⟨t.set i d,m⟩:=maa rfl rfl
theorem ZV:St.put s none d=s:=maa rfl rfl
theorem J7:KO R ⟨t,m⟩ (some i) d m'=R ⟨t.set i d,m'⟩:=maa rfl rfl
theorem I7:KO R ⟨t,m⟩ none d m'=R ⟨t,m'⟩:=maa rfl rfl
theorem rV:gate ⟨t,m⟩ (some (i,b))=(match t.getD i .dead with|.v (.bool c)=>some (some (c,b))|.v _=>some (some (!b,b))|_=>none):=maa rfl rfl
theorem Y1:Cx ⟨t,m⟩ (some (i,b)) c=(match t.getD i .dead with|.v (.bool _)=>⟨t.set i (.v (.bool c)),m⟩|_=>⟨t,m⟩):=maa rfl rfl
theorem qU{l:List D}:D.cells (.agg l)=l:=maa rfl rfl
theorem B8:D.cells (.v x)=[.v x]:=maa rfl rfl
theorem vY{l:List D}:D.cells (.sl n l)=[.sl n l]:=maa rfl rfl
theorem oC:D.cells (.own i k)=[.own i k]:=maa rfl rfl
theorem iP{a b:Nat}:D.cells (.view i k a b)=[.view i k a b]:=maa rfl rfl
theorem rU{a b:Nat}:D.cells (.ref i k a b)=[.ref i k a b]:=maa rfl rfl
theorem uY:D.cells (.pt d)=[.pt d]:=maa rfl rfl
theorem sY{a b:List D}:D.cells (.fn f a b)=[.fn f a b]:=maa rfl rfl
theorem tY:D.cells (.mp i)=[.mp i]:=maa rfl rfl
theorem ok_agg{l:List D}:D.ok (.agg l)=true:=maa rfl rfl
theorem ok_v:D.ok (.v x)=one x:=maa rfl rfl
theorem ok_sl{l:List D}:D.ok (.sl n l)=true:=maa rfl rfl
theorem ok_own:D.ok (.own i k)=true:=maa rfl rfl
theorem ok_view{a b:Nat}:D.ok (.view i k a b)=true:=maa rfl rfl
theorem ok_ref{a b:Nat}:D.ok (.ref i k a b)=true:=maa rfl rfl
theorem ok_pt:D.ok (.pt d)=true:=maa rfl rfl
theorem ok_fn{a b:List D}:D.ok (.fn f a b)=true:=maa rfl rfl
theorem ok_mp:D.ok (.mp i)=true:=maa rfl rfl
theorem one_int{j:IntKind}{z:Int}:one (.int j z)=true:=maa rfl rfl
theorem Q1:one (.bool b)=true:=maa rfl rfl
theorem one_str{z:ByteArray}:one (.string z)=true:=maa rfl rfl
theorem one_sl{a b}:one (.slice none a b)=true:=maa rfl rfl
theorem one_map:one (.map none)=true:=maa rfl rfl
theorem one_ptr:one (.pointer none)=true:=maa rfl rfl
theorem len_nil:Fc m (.v (.slice none 0 0))=some 0:=maa rfl rfl
theorem len_sl{l:List D}:Fc m (.sl n l)=some l.length:=maa rfl rfl
theorem len_own:Fc m (.own i k)=(match m[i]? with|some (.live _ a l)=>if a=k then some l.length else none|_=>none):=maa rfl rfl
theorem B0{a b:Nat}:Fc m (.view i k a b)=(match m[i]? with|some _=>some b|none=>none):=maa rfl rfl
theorem G8:contents n m (.v (.slice none 0 0))=some []:=maa rfl rfl
theorem con_sl{l:List D}:contents n m (.sl k l)=(if k=n then some l else none):=maa rfl rfl
theorem H8:contents n m (.own i k)=(match m[i]? with|some (.live S' a l)=>if S'=n/\a=k then some l else none|_=>none):=maa rfl rfl
theorem FY{a b:Nat}:contents n m (.view i k a b)=(match m[i]? with|some (.live S' c l)=>if S'=n/\c=k/\a+b<=l.length then some ((l.drop a).take b)else none|_=>none):=maa rfl rfl
theorem part_t{l:List D}:part true n off l=(if gy off n l=true then some (.agg ((l.drop off).take n))else none):=by simp only[Zr];rfl
theorem part_f{l:List D}:part false n off l=l[off]?:=maa rfl rfl
theorem upd_agg{l:List D}{a:Nat}:D.Uf (.agg l) a r=.agg (tp l a r):=maa rfl rfl
theorem upd_v{a:Nat}:D.Uf (.v x) a r=r.headD .dead:=maa rfl rfl
theorem upd_sl{l:List D}{a:Nat}:D.Uf (.sl n l) a r=r.headD .dead:=maa rfl rfl
theorem upd_own{a:Nat}:D.Uf (.own i k) a r=r.headD .dead:=maa rfl rfl
theorem upd_pt{a:Nat}:D.Uf (.pt d) a r=r.headD .dead:=maa rfl rfl
theorem upd_ref{a b c:Nat}:D.Uf (.ref i k b c) a r=r.headD .dead:=maa rfl rfl
theorem head_cons{e:D}:(d::r).headD e=d:=maa rfl rfl
theorem U4{l:List D}:tp (d::l) 0 (d'::r)=d'::tp l 0 r:=by simp[tp]
theorem V4{l:List D}:tp (d::l) (n+1) r=d::tp l n r:=by simp[tp,Nat.add_right_comm]
theorem RQ{l:List D}:tp l 0 []=l:=by simp[tp]
theorem oU{l:List D}:Rs s [] l=some l:=maa rfl rfl
theorem dP{l:List D}{ps:List (Nat×Nat×Operand)}:Rs s ((off,n,o)::ps) l=(if(s.ev o).ok=true/\fu n (s.ev o).cells=true/\gy off n l=true then Rs s ps (tp l off (s.ev o).cells)else none):=by simp only[jr,Zr];rfl
theorem q8{l:List D}:wc s n [] l=some l:=maa rfl rfl
theorem iY{l:List D}{ps:List (Nat×Operand)}:wc s n ((i,o)::ps) l=(if(s.ev o).ok=true/\fu n (s.ev o).cells=true/\gy i 1 l=true then wc s n ps (l.set i (s.ev o))else none):=by simp only[jr,Zr];rfl
theorem fY:bound s n none=some n:=maa rfl rfl
theorem gY:bound s n (some o)=(match s.ev o with|.v (.int _ n)=>if 0<=n then some n.toNat else none|_=>none):=maa rfl rfl
theorem sli_nil:ct n m (.v (.slice none 0 0)) lo hi=(if lo=0/\hi=0 then some (.v (.slice none 0 0))else none):=maa rfl rfl
theorem sli_sl{l:List D}:ct n m (.sl k l) lo hi=(if k=n/\lo<=hi/\hi<=l.length then some (.sl n ((l.drop lo).take (hi-lo)))else none):=maa rfl rfl
theorem sli_own:ct n m (.own i k) lo hi=(match m[i]? with|some (.live S' a l)=>if S'=n/\a=k/\lo<=hi/\hi<=l.length then some (.view i k lo (hi-lo))else none|_=>none):=maa rfl rfl
theorem T4{a b:Nat}:ct n m (.view i k a b) lo hi=(match m[i]? with|some (.live S' c l)=>if S'=n/\c=k/\lo<=hi/\hi<=b/\a+b<=l.length then some (.view i k (a+lo) (hi-lo))else none|_=>none):=maa rfl rfl
theorem lvs_nil:leaves []=some []:=maa rfl rfl
theorem J0{l:List D}:leaves (.v x::l)=(leaves l).map (x::·):=maa rfl rfl
theorem T8{j k:IntKind}{a b:Int}:Ts 0 (.v (.int j a)) (.v (.int k b))=(if j=k then some (a==b)else none):=maa rfl rfl
theorem nZ{a b:Bool}:Ts 1 (.v (.bool a)) (.v (.bool b))=some (a==b):=maa rfl rfl
theorem Rz{a b:ByteArray}:(a.toList==b.toList)=decide (a=b):=by
 by_cases h:a=b
 .subst h;simp
 .rw[decide_eq_false h,beq_eq_false_iff_ne];exact λhe=>h (by cases a;cases b;simp only[ByteArray.toList_eq]at he;simpa using he)
theorem U8{a b:ByteArray}:Ts 2 (.v (.string a)) (.v (.string b))=some (decide (a=b)):=by
 rw[←Rz];rfl
theorem str_eq{a b:ByteArray}:Kg (binOp .eql 0 (.string a) (.string b))=some (.bool (decide (a=b))):=by
 rw[←Rz];rfl
theorem str_ne{a b:ByteArray}:Kg (binOp .neq 0 (.string a) (.string b))=some (.bool (!decide (a=b))):=by
 rw[←Rz];rfl
theorem V8:Bd [] [] []=some true:=maa rfl rfl
theorem oZ{ks:List Nat}{xs ys:List D}{e:D}:Bd (k::ks) (d::xs) (e::ys)=(match Ts k d e,Bd ks xs ys with|some a,some b=>some (a&&b)|_,_=>none):=maa rfl rfl
section
variable {j:IntKind} {a b:Int}
theorem bj_add:Qg .add j a j b=some (.int j (aa j (a+b))):=by simp[Qg]
theorem bj_sub:Qg .sub j a j b=some (.int j (aa j (a-b))):=by simp[Qg]
theorem bj_mul:Qg .mul j a j b=some (.int j (aa j (a*b))):=by simp[Qg]
theorem bj_eql:Qg .eql j a j b=some (.bool (a==b)):=by simp[Qg]
theorem bj_neq:Qg .neq j a j b=some (.bool (a !=b)):=by simp[Qg]
theorem bj_lss:Qg .lss j a j b=some (.bool (decide (a<b))):=by simp[Qg]
theorem bj_leq:Qg .leq j a j b=some (.bool (decide (a<=b))):=by simp[Qg]
theorem bj_gtr:Qg .gtr j a j b=some (.bool (decide (b<a))):=by simp[Qg]
theorem bj_geq:Qg .geq j a j b=some (.bool (decide (b<=a))):=by simp[Qg]
theorem bj_quo:Qg .quo j a j b=if b=0 then none else some (.int j (aa j (a.tdiv b))):=by
 by_cases h:b=0<;>simp[Qg,h]
theorem bj_rem:Qg .rem j a j b=if b=0 then none else some (.int j (a.tmod b)):=by
 by_cases h:b=0<;>simp[Qg,h]
end
theorem bne_F{b:Bool}:(b !=false)=b:=by cases b<;>rfl
theorem bne_T{b:Bool}:(b !=true) = !b:=by cases b<;>rfl
theorem not_F{b:Bool}:((!b)=false)=(b=true):=by cases b<;>simp
theorem not_T{b:Bool}:((!b)=true)=(b=false):=by cases b<;>simp
theorem Sf:yb s []=some []:=maa rfl rfl
theorem Tf{l:List RV}:yb ⟨t,m⟩ (.tmp i::l)=(match yb ⟨t,m⟩ l with|some ds=>some (t.getD i .dead::ds)|none=>none):=by
 simp only[yb,Du];cases yb ⟨t,m⟩ l<;>rfl
theorem Yd{l:List RV}:yb ⟨t,m⟩ (.cell b n i::l)=(match da ⟨t,m⟩ (.load b n (.tmp i)),yb ⟨t,m⟩ l with|some (d,_),some ds=>some (d::ds)|_,_=>none):=by
 simp only[yb,Du];cases da ⟨t,m⟩ (.load b n (.tmp i))<;>cases yb ⟨t,m⟩ l<;>rfl
end
def zx:=(And.intro (And.intro (And.intro (And.intro (And.intro (And.intro (And.intro (And.intro (And.intro @KL_go @KL_brk) (And.intro @KL_ret @KL_out)) (And.intro (And.intro @uI @H7) (And.intro @KJ_ret @q_mv))) (And.intro (And.intro (And.intro @q_pick @q_bin) (And.intro @q_beq @q_un)) (And.intro (And.intro @q_conv @q_alloc) (And.intro @q_box @q_build)))) (And.intro (And.intro (And.intro (And.intro @N2 @q_load) (And.intro @q_store @q_nilc)) (And.intro (And.intro @q_slice @q_faddr) (And.intro @q_field @q_iaddr))) (And.intro (And.intro (And.intro @q_aaddr @q_index) (And.intro @bW @q_len)) (And.intro (And.intro @q_slen @L2) (And.intro @cW @O2))))) (And.intro (And.intro (And.intro (And.intro (And.intro @q_fail @q_mm) (And.intro @q_ceq @q_strb)) (And.intro (And.intro @q_sidx @P2) (And.intro @q_mkmap @q_mlook))) (And.intro (And.intro (And.intro @q_mput @q_mlen) (And.intro @q_trunc @q_mkifc)) (And.intro (And.intro @dW @q_clr) (And.intro @q_capn @q_nileq)))) (And.intro (And.intro (And.intro (And.intro @q_mkapp @gQ_T) (And.intro @gQ_F @H9)) (And.intro (And.intro @I9 @xZ) (And.intro @LX @QO))) (And.intro (And.intro (And.intro @RO @E7) (And.intro @NT @st_tmp)) (And.intro (And.intro @Z4 @st_func) (And.intro @aW @ZV)))))) (And.intro (And.intro (And.intro (And.intro (And.intro (And.intro @J7 @I7) (And.intro @rV @Y1)) (And.intro (And.intro @qU @B8) (And.intro @vY @oC))) (And.intro (And.intro (And.intro @iP @rU) (And.intro @uY @sY)) (And.intro (And.intro @tY @ok_agg) (And.intro @ok_v @ok_sl)))) (And.intro (And.intro (And.intro (And.intro @ok_own @ok_view) (And.intro @ok_ref @ok_pt)) (And.intro (And.intro @ok_fn @ok_mp) (And.intro @one_int @Q1))) (And.intro (And.intro (And.intro @one_str @one_sl) (And.intro @one_map @one_ptr)) (And.intro (And.intro @len_nil @len_sl) (And.intro @len_own @B0))))) (And.intro (And.intro (And.intro (And.intro (And.intro @G8 @con_sl) (And.intro @H8 @FY)) (And.intro (And.intro @part_t @part_f) (And.intro @upd_agg @upd_v))) (And.intro (And.intro (And.intro @upd_sl @upd_own) (And.intro @upd_pt @upd_ref)) (And.intro (And.intro @head_cons @U4) (And.intro @V4 @RQ)))) (And.intro (And.intro (And.intro (And.intro @oU @dP) (And.intro @q8 @iY)) (And.intro (And.intro @fY @gY) (And.intro @sli_nil @sli_sl))) (And.intro (And.intro (And.intro @sli_own @T4) (And.intro @lvs_nil @J0)) (And.intro (And.intro @T8 @nZ) (And.intro @U8 @str_eq))))))) (And.intro (And.intro (And.intro (And.intro (And.intro (And.intro (And.intro @str_ne @V8) (And.intro @oZ @bj_add)) (And.intro (And.intro @bj_sub @bj_mul) (And.intro @bj_eql @bj_neq))) (And.intro (And.intro (And.intro @bj_lss @bj_leq) (And.intro @bj_gtr @bj_geq)) (And.intro (And.intro @bj_quo @bj_rem) (And.intro @bne_F @bne_T)))) (And.intro (And.intro (And.intro (And.intro @not_F @not_T) (And.intro @Sf @Tf)) (And.intro (And.intro @Yd @Yaa.{0}) (And.intro @Rab.{0} @neg_int))) (And.intro (And.intro (And.intro @max_int @min_int) (And.intro @false_and @and_false)) (And.intro (And.intro @true_or @or_true) (And.intro @or_self @false_or))))) (And.intro (And.intro (And.intro (And.intro (And.intro @or_false @qY) (And.intro @eq_self.{1} @oq)) (And.intro (And.intro @gP_T @gP_F) (And.intro @bne_self_eq_false.{0} @bne_iff_ne.{0}))) (And.intro (And.intro (And.intro @bne_eq_false_iff_eq.{0} @Bool.false_eq_true) (And.intro @Bool.true_eq_false @false_implies)) (And.intro (And.intro @true_implies @implies_true.{1}) (And.intro @not_true_eq_false @not_false_eq_true)))) (And.intro (And.intro (And.intro (And.intro @beq_self_eq_true.{0} @KX) (And.intro @kR @aF)) (And.intro (And.intro @AX @zX) (And.intro @sI @RT))) (And.intro (And.intro (And.intro @K7 @KS_ret) (And.intro @QT @G7)) (And.intro (And.intro @KB_ret @VX) (And.intro @map_ite @Option.bind_some.{0,0})))))) (And.intro (And.intro (And.intro (And.intro (And.intro (And.intro @Nat.mul_one @Int.toNat_natCast) (And.intro @Int.natCast_nonneg @n6)) (And.intro (And.intro @o6 @l6) (And.intro @Nat.lt_add_one @Mae))) (And.intro (And.intro (And.intro @true_and @and_true) (And.intro @and_self @Bool.or_false)) (And.intro (And.intro @Bool.false_or @Bool.or_true) (And.intro @Bool.true_or @Bool.or_self)))) (And.intro (And.intro (And.intro (And.intro @ZT @List.getD_cons_succ.{0}) (And.intro @List.getD_cons_zero.{0} @Gaa.{0})) (And.intro (And.intro @Qaa.{0} @qaa.{0}) (And.intro @Aaa.{0} @List.set_cons_succ.{0}))) (And.intro (And.intro (And.intro @List.set_cons_zero.{0} @vaa.{0,0}) (And.intro @gab.{0,0} @zac.{0,0})) (And.intro (And.intro @Option.map_none.{0,0} @binJ_r) (And.intro @decide_true @cond_true.{1}))))) (And.intro (And.intro (And.intro (And.intro (And.intro @cond_false.{1} @if_true.{1}) (And.intro @if_false.{1} @decide_eq_true_eq)) (And.intro (And.intro @decide_eq_false_iff_not @tac) (And.intro @sac @Nat.succ_ne_self))) (And.intro (And.intro (And.intro @Bool.not_true @Bool.not_false) (And.intro @wrapF_r @decide_false)) (And.intro (And.intro @beq_iff_eq.{0} @beq_eq_false_iff_ne.{0}) (And.intro @ne_eq.{1} @Jab)))) (And.intro (And.intro (And.intro (And.intro @Nat.add_zero @Waa.{0,0}) (And.intro @Haa @ite_true.{1})) (And.intro (And.intro @ite_false.{1} @Taa.{0}) (And.intro @List.drop_succ_cons.{0} @kad.{0}))) (And.intro (And.intro (And.intro @List.take_succ_cons.{0} @List.take_zero.{0}) (And.intro @List.getElem?_map.{0,0} @List.length_append.{0})) (And.intro (And.intro @qab @Ead) (And.intro @rpS @mad.{0})))))))) (And.intro (And.intro (And.intro (And.intro @zac.{0,0} @li_nil) (And.intro @li_cons @h2_z)) (And.intro (And.intro @h2_n @h2_o) (And.intro @zaa @Sk))) (And.intro (And.intro (And.intro @Ij @Un) (And.intro @zS @all_em)) (And.intro @faa @em_len))))
theorem sqS_map{α:Type}{e:α->D} [Fr e] {f:D->D->Prop}{l:List α}:gx f (l.map e) (l.map e)=True:=ph (Fr.l l)
theorem nz_S{x:Nat}:(0=x+1)=False:=by simp
theorem nS_z{x:Nat}:(x+1=0)=False:=by simp
theorem nS_S{x y:Nat}:(x+1=y+1)=(x=y):=by simp
def zq:=(And.intro (And.intro (And.intro (And.intro (And.intro (And.intro @nz_S @nS_z) (And.intro @nS_S @sqS_map)) (And.intro (And.intro @sqL_nil @W4) (And.intro @sqS_L @sqS_nil))) (And.intro (And.intro (And.intro @sq_dead @sq_v) (And.intro @sq_agg @sq_tup)) (And.intro (And.intro @sq_nils @sq_sl) (And.intro @sq_froz @Y4)))) (And.intro (And.intro (And.intro (And.intro @sq_own @X4) (And.intro @sq_ref @sq_view)) (And.intro (And.intro @sq_pt @sq_fref) (And.intro @sq_fn @et_nil))) (And.intro (And.intro (And.intro @Y8 @et_new) (And.intro @U1 @WV)) (And.intro (And.intro @Sk @Ij) (And.intro @sq_mp @et_mp))))) (And.intro (And.intro (And.intro (And.intro (And.intro @G9 @xK) (And.intro @em_nil @rpS)) (And.intro (And.intro @mad.{0} @and_self) (And.intro @and_true @true_and))) (And.intro (And.intro (And.intro @or_true @true_or) (And.intro @eq_self.{1} @Yaa.{0})) (And.intro (And.intro @Rab.{0} @Vaa.{0}) (And.intro @Naa.{0,0} @gab.{0,0})))) (And.intro (And.intro (And.intro (And.intro @vaa.{0,0} @List.map_append.{0,0}) (And.intro @Qaa.{0} @exists_eq'.{1})) (And.intro (And.intro @sac @tac) (And.intro @bne_iff_ne.{0} @ne_eq.{1}))) (And.intro @not_false_eq_true @zaa))))
def zs:=(And.intro (And.intro (And.intro @Gaa.{0} @Qaa.{0}) (And.intro @qaa.{0} @Aaa.{0})) (And.intro (And.intro @Jab @Sk) @Ij))
variable {P:Program} {N:Nat}
class StbC (N:Nat) (K:Exit->St->Prop):Prop where
 h:Stb N K
variable {K:Exit->St->Prop}
instance {b:C}{K:Exit->St->Prop}:StbC N (KS P N b K):=⟨stb_S⟩
instance {id:Nat}{K:Exit->St->Prop} [h:StbC N K]:StbC N (KB id K):=⟨stb_B h.h⟩
instance {σ β ρ:Type}{id:Nat}{K:Exit->St->Prop}{S:σ->St}{B:β->St}{z:Ex σ β ρ}:StbC N (KL N id K S B z):=⟨stb_L⟩
instance {X R:Type}{K:Exit->St->Prop}{S:X->St}{z:X⊕R}:StbC N (KJ N K S z):=⟨stb_J⟩
instance {rs:List RV}{o:D}:StbC 0 (Bv rs o):=⟨stb_F⟩
theorem T.F0{ρ:Type}[c:StbC N K] {x:C}{s:St}(S:σ->St) (B:β->St) (step:σ->Option (Ex σ β ρ)) (x0:σ) {y:β⊕ρ}(e:Tm.ea step x0=some y) (d:Tells N s (S x0))
 (round:∀a z,step a=some z->(∀v,z=.ret v->y=.inr v)->Tm.T P N x (KL N id K S B z) (S a))
 (rest:∀b,y=.inl b->K .normal (B b)):Tm.T P N (.block id (.loop x)) K s:=T.ea S B step x0 e d c.h round rest
theorem YB:fa []=true:=rfl
theorem bE{α:Type}{e:α->D} [Fr e] {x:α}{l:List D}(h:fa l=true):fa (e x::l)=true:=by
 simp_all[fa,Fr.h]
theorem nV{k:FuncId}{q l:List D}(hc:fa q=true) (h:fa l=true):fa (.fn k [] q::l)=true:=by
 grind[fa,pa]
theorem oY{d d':D}{q:List D}{o:D}(h:Den P k ([d']++q) o) (hq:fa q=true) (hf:f o m) (a:Sq [] [] 9 d d'):Ye P k (d::q) m f:=
 Ub (m1:=m) (d1:=o) ⟨(h m).1,λG w vs hv hi=>(h m).2 G w vs ((HB (tu 9 d d' q q a (Sbs.free hq))).1 vs hv) hi⟩ hf
theorem EndF_n{o:D}{s:St}(h:wM (yb s rs) s.m o):Bv rs o .normal s:=by
 obtain⟨ds,a,h2⟩:=h;exact⟨s,.refl s,ds,a,h2⟩
def Fq{α:Type}(l:List α) (hi:Int):Option (List α):=if 0<=hi/\hi.toNat<=l.length then some (l.take hi.toNat)else none
def oA{α:Type}(l:List α) (lo:Int):Option (List α):=if 0<=lo/\lo.toNat<=l.length then some (l.drop lo.toNat)else none
section
variable {α:Type} {e:α->D} {l r x:List α} {i:Int} {y:α} {b:Nat}
theorem idx_f(h:idx l i=some y):0<=i/\l[i.toNat]?=some y:=iy h
theorem idx_o(h:idx l i=some y):0<=i/\l[i.toNat]?=some y/\i.toNat<l.length:=by
 obtain⟨h1,h2⟩:=iy h
 grind
theorem Rw(h:app b l r=some x):(l.length+r.length)*b<=2 ^ 47/\l.map e++r.map e=x.map e:=by
 obtain⟨h1,rfl⟩:=WX h
 simp_all
theorem F2(h:put l i y=some x):i.toNat<l.length/\(l.map e).set i.toNat (e y)=x.map e:=by
 obtain⟨h0,h1,rfl⟩:=K2 h
 simp_all
theorem jN{n c:Int}(h:py b y n c=some x):0<=n/\n<=c/\c<=2 ^ 62/\c.toNat*b<=2 ^ 48/\oaa n.toNat (e y)=x.map e:=by
 obtain⟨h0,h1,h2,h3,rfl⟩:=V0 h
 simp_all
theorem subh_f(h:Fq l i=some x):0<=i/\i.toNat<=l.length/\((l.map e).drop 0).take (i.toNat-0)=x.map e:=by
 unfold Fq at h;split at h
 .rename_i hc;obtain rfl:=Iaa h
  simp_all
 .cases h
theorem trunc_f(h:Fq l i=some x):0<=i/\i.toNat<=l.length/\(l.map e).take i.toNat=x.map e:=by
 obtain⟨h1,h2,h3⟩:=subh_f (e:=e) h
 simp_all
theorem n5(h:oA l i=some x):0<=i/\i.toNat<=l.length/\((l.map e).drop i.toNat).take (l.length-i.toNat)=x.map e:=by
 unfold oA at h;split at h
 .rename_i hc;obtain rfl:=Iaa h
  grind[List.map_drop,Bac]
 .cases h
theorem ZR(h:oA l i=some x):0<=i/\i.toNat<=l.length/\((l.map e).take l.length).drop i.toNat=x.map e:=by
 obtain⟨h1,h2,h3⟩:=n5 (e:=e) h
 grind[Bac]
theorem subl_o(h:oA l i=some x):0<=i/\i.toNat<=l.length/\i.toNat+x.length<=l.length/\l.length-i.toNat=x.length/\((l.map e).drop i.toNat).take x.length=x.map e:=by
 obtain⟨h1,h2,a⟩:=n5 (e:=e) h;have h4:l.length-i.toNat=x.length:=by
  have:=congrArg List.length a
  grind
 grind
theorem quo_f{k:IntKind}{a c d:Int}(h:quo k a c=some d):¬c=0/\aa k (a.tdiv c)=d:=by
 grind[quo]
theorem rem_f{k:IntKind}{a c d:Int}(h:rem k a c=some d):¬c=0/\a.tmod c=d:=by
 grind[rem]
end
theorem vC:∀n:Nat,Tm.ds n []=oaa n .dead
 |0=>rfl
 |n+1=>by rw[Ij,vC n];rfl
theorem Den.at{l:List D}{o:D}(n:Nat) (hF:Hv P k=some F) (hname:((P.funcs[k]?).map λfn=>fn.name == "runtime.NumGoroutine")=some false) (hf:fa l=true)
 (hn:F.ntmps=l.length+n) (h:T P 0 F.code (Bv F.results o) ⟨l++Tm.ds n [],[]⟩):Den P k l o:=by
 grind[Den.of,vC]
section
variable {P:Program} {N:Nat} {ops:Array Oper} {Q:Exit->Act->World->Prop} {K:St->Prop} {rl:List RI} {q:Nat} {ps:List (List Nat)}
def VV(R:List (List Nat)->St->Prop) (fp:List (List Nat)) (p:List Nat) (dst:Option Tmp) (i:I) (s:St):Prop:=
 rA fp (zm s (.op dst none i)) p=true/\ag s i=true/\Pp (da s i) (KO (R (fp++[zm s (.op dst none i)])) s dst)
def skY(R:List (List Nat)->St->Prop) (fp:List (List Nat)) (p:List Nat) (dst:Option Tmp) (i:I) (s:St):Prop:=
 rA fp (zm s (.op dst none i)) p=true/\R (fp++[zm s (.op dst none i)]) (s.put dst (.v undef))
def Fv(P:Program) (k:FuncId) (ds:List D) (ids:List Nat) (R:St->Prop) (s:St) (dst:Option Tmp):Prop:=
 ∃d,((∀id∈ids,id<s.m.length)/\∀m,(∀id∈ids,m[id]?=s.m[id]?)->CallT P k ds m λd' m'=>d'=d/\m'=m)/\R (s.put dst d)
def yY(P:Program) (R:List (List Nat)->St->Prop) (fp:List (List Nat)) (p:List Nat) (k:FuncId) (dst:Option Tmp) (args:List Operand) (s:St):Prop:=rA fp (Fb s args) p=true/\Fv P k (args.map s.ev) (Fb s args) (R (fp++[Fb s args])) s dst
def cnY(R:List (List Nat)->St->Prop) (fp:List (List Nat)) (p:List Nat) (dst:Option Tmp) (args:List Operand) (s:St):Prop:=rA fp (Fb s args) p=true/\R (fp++[Fb s args]) (s.put dst (.v undef))
def dv(P:Program):List (List Nat)->Nat->List RI->(St->Prop)->List (List Nat)->St->Prop
 |_,0,l,K,_,s=>zh P l K s
 |_,_+1,[],_,_,_=>False
 |ps,q+1,.op dst none i::l,K,fp,s=>VV (dv P ps.tail q l K) fp (ps.headD []) dst i s
 |ps,q+1,.op dst (some (t,b)) i::l,K,fp,s=>
  gD (s.t.getD t .dead) b (VV (dv P ps.tail q l K) fp (ps.headD []) dst i) ⟨s.t.set t (.v (.bool b)),s.m⟩ (skY (dv P ps.tail q l K) fp (ps.headD []) dst i) ⟨s.t.set t (.v (.bool (!b))),s.m⟩ s
 |ps,q+1,.call dst none (.func k) args::l,K,fp,s=>yY P (dv P ps.tail q l K) fp (ps.headD []) k dst args s
 |ps,q+1,.call dst (some (t,b)) (.func k) args::l,K,fp,s=>
  gD (s.t.getD t .dead) b (yY P (dv P ps.tail q l K) fp (ps.headD []) k dst args) ⟨s.t.set t (.v (.bool b)),s.m⟩ (cnY (dv P ps.tail q l K) fp (ps.headD []) dst args) ⟨s.t.set t (.v (.bool (!b))),s.m⟩ s
 |_,_+1,.call ..::_,_,_,_=>False
theorem dG{d:D}{b:Bool}(hd:t.getD i .dead=d) {a e:St->Prop}(h:gD d b a ⟨t.set i (.v (.bool b)),m⟩ e ⟨t.set i (.v (.bool (!b))),m⟩ ⟨t,m⟩) :
 match gate ⟨t,m⟩ (some (i,b))with
 |none=>False
 |some none=>True
 |some (some (c,b))=>(c=b->a ⟨t,m⟩)/\(c≠b->e ⟨t,m⟩):=by
 simp only[gate,hd];unfold gD at h
 cases d with
 |v x=>
  cases x with
  |bool c=>
   simp only[gQ]at h⊢;have f:=JB hd (by simp);refine⟨λhc=>?_,λhc=>?_⟩
   .subst hc;have:=h.1 rfl
    simp_all
   .have:=h.2 hc;rwa [show(!b)=c by cases b<;>cases c<;>simp_all,f]at this
  |_=>cases b<;>simpa using h
 |_=>exact h
theorem tD:∀{q:Nat}{l:List RI}{ps:List (List Nat)}{fp:List (List Nat)}{s:St},dv P ps q l K fp s->fx P ps fp q l K s
 |0,l,ps,fp,s,h=>by simp only[dv]at h;simp only[fx];exact Xs h
 |q+1,[],ps,fp,s,h=>by simp only[dv]at h
 |q+1,.op dst none i::l,ps,fp,s,h=>by
  simp only[dv,VV]at h;obtain⟨e,a,h2⟩:=h;simp only[fx,gate];obtain⟨d,m',j,m⟩:=(Dl _ _).1 h2;exact⟨e,d,m',a,j,tD m⟩
 |q+1,.op dst (some (t,b)) i::l,ps,fp,⟨st,sm⟩,h=>by
  simp only[dv]at h;have h:=dG rfl h;have f:∀s,zm s (.op dst (some (t,b)) i)=zm s (.op dst none i):=λ_=>rfl;simp only[fx];rw[f];split at h
  .simp_all
  .grind[gate]
  .rename_i c g o;simp only[o];by_cases hc:c=g
   .obtain⟨e,a,h2⟩:=h.1 hc;obtain⟨d,m',j,m⟩:=(Dl _ _).1 h2;exact⟨e,λ_=>⟨d,m',a,j,tD m⟩,λhn=>(hn hc).elim⟩
   .obtain⟨e,h2⟩:=h.2 hc;exact⟨e,λhn=>(hc hn).elim,λ_=>tD h2⟩
 |q+1,.call dst none (.func k) args::l,ps,fp,s,h=>by
  simp only[dv,yY,Fv]at h;obtain⟨a,d,e,h2⟩:=h;simp only[fx,gate];exact⟨a,d,by simp_all,tD h2⟩
 |q+1,.call dst (some (t,b)) (.func k) args::l,ps,fp,⟨st,sm⟩,h=>by
  simp only[dv]at h;have h:=dG rfl h;simp only[fx];have n:St.cv ⟨st,sm⟩ (.func k)=.fn k [] []:=rfl;simp only[n];split at h
  .simp_all
  .grind[gate]
  .rename_i c g o;simp only[o];by_cases hc:c=g
   .obtain⟨a,d,e,h2⟩:=h.1 hc;exact⟨a,λ_=>⟨d,by simp_all,tD h2⟩,λhn=>(hn hc).elim⟩
   .obtain⟨a,h2⟩:=h.2 hc;exact⟨a,λhn=>(hc hn).elim,λ_=>tD h2⟩
 |q+1,.call dst none (.tmp _) args::l,ps,fp,s,h=>by simp only[dv]at h
 |q+1,.call dst none (.const _) args::l,ps,fp,s,h=>by simp only[dv]at h
 |q+1,.call dst none (.global _) args::l,ps,fp,s,h=>by simp only[dv]at h
 |q+1,.call dst (some _) (.tmp _) args::l,ps,fp,s,h=>by simp only[dv]at h
 |q+1,.call dst (some _) (.const _) args::l,ps,fp,s,h=>by simp only[dv]at h
 |q+1,.call dst (some _) (.global _) args::l,ps,fp,s,h=>by simp only[dv]at h
 |q+1,.call dst none (.meth _ _) args::l,ps,fp,s,h=>by simp only[dv]at h
 |q+1,.call dst (some _) (.meth _ _) args::l,ps,fp,s,h=>by simp only[dv]at h
theorem T.dy(hm:P.follows .mixedOrders=true) {l:List RI}{K:Exit->St->Prop}{s:St}(h:dv P [] q l (K .normal) [] s):T P N (.draw q l) K s:=
 T.drawO hm (Mu (tD h))
theorem T.ay(hm:P.follows .mixedOrders=true) {bs:List (List Nat)}{l:List RI}{K:Exit->St->Prop}{s:St}(ps:List (List Nat)) (a:Nu bs l q ps []=true) (h:dv P ps q l (K .normal) [] s):T P N (.any cuts q bs l) K s:=
 T.any2 hm ps a (tD h)
end
section
variable {P:Program}
theorem SJ{ds:List D}{o:D}{R:St->Prop}{s:St}(h:Den P k ds' o) (hf:R (s.put dst o)) (a:Nz (Sq [] [] 9) ds ds'):Fv P k ds [] R s dst:=
 ⟨o,⟨λ_ h=>(by cases h),λm _=>⟨(h m).1,λG w vs hv hi=>(h m).2 G w vs ((HB (Yu (tu 9) a)).1 vs hv) hi⟩⟩,hf⟩
def Lq(m:List Ent) (d e:D):Prop:=
 match d,e with
 |.own j v,.sl S b=>match m[j]? with|some (.live S' c a)=>S'=S/\c=v/\a=b/\fa a=true|_=>False
 |.view j v lo n,.sl S b=>match m[j]? with|some (.live S' c a)=>S'=S/\c=v/\lo+n<=a.length/\(a.drop lo).take n=b/\fa b=true|_=>False
 |.ref j v x s,.pt e=>match m[j]? with|some (.live _ c a)=>c=v/\s=0/\a[x]?=some e/\pa e=true|_=>False
 |d,e=>Sq [] [] 9 d e
theorem sbs_up{l:List D}(h:Sbs [] [] l r) (m:List Ent):Sbs [] m l r:=by
 induction h with
 |nil=>exact .nil
 |same hf h b=>exact .same hf b
 |dead h b=>exact .dead b
 |nils h b=>exact .nils b
 |agg ha h a b=>exact .agg a b
 |tup ha h a b=>exact .tup a b
 |sl ha h a b=>exact .sl a b
 |pt ha h a b=>exact .pt a b
 |fn ha hc h a c b=>exact .fn a c b
 |ifc ha h a b=>exact .ifc a b
 |Hx i hi=>simp at hi
 |own hi=>simp at hi
 |ref hi=>simp at hi
 |view hi=>simp at hi
 |mp hi=>simp at hi
 |Af hm=>simp at hm
 |fview hm=>simp at hm
 |fref hm=>simp at hm
theorem lq_sbs(hm:∀id∈ids,m'[id]?=m[id]?) {d e:D}{l:List D}(h:Lq m d e) (c:(match Ud d with|some j=>ids.contains j|none=>true)=true) (f:Sbs [] m' l r):Sbs [] m' (d::l) (e::r):=by
 unfold Lq at h;split at h
 .rename_i j v S b;simp only[Ud,bab]at c;split at h
  .rename_i S' g a hj;obtain⟨rfl,rfl,rfl,hf⟩:=h;exact .Af (by simp_all) rfl (Sbs.free hf) f
  simp_all
 .rename_i j v lo n S b;simp only[Ud,bab]at c;split at h
  .rename_i S' g a hj;obtain⟨rfl,rfl,hn,rfl,hf⟩:=h;exact .fview (by simp_all) rfl hn (Sbs.free hf) f
  simp_all
 .rename_i j v x s e;simp only[Ud,bab]at c;split at h
  .rename_i S' g a hj;obtain⟨rfl,rfl,hx,hf⟩:=h;exact .fref (by rw[hm j c];omega) rfl hx (.same hf .nil) f
  simp_all
 .have i:=sbs_up (tu 9 d e [] [] h .nil) m';exact Sbs.app (a:=[d]) (b:=[e]) i f
def Kz(ids:List Nat) (ds:List D):Bool:=ds.all λd=>match Ud d with|some j=>ids.contains j|none=>true
theorem FE{m m':List Ent}{ids:List Nat}(hm:∀id∈ids,m'[id]?=m[id]?):∀{a b:List D},Nz (Lq m) a b->Kz ids a=true->Sbs [] m' a b
 |[],[],_,_=>.nil
 |d::l,e::r,h,ht=>by
  simp only[Kz,Kab,zaa]at ht;exact lq_sbs hm h.1 ht.1 (FE hm h.2 ht.2)
 |[],_::_,h,_=>h.elim
 |_::_,[],h,_=>h.elim
theorem qF{ds:List D}{o:D}{R:St->Prop}{s:St}(h:Den P k ds' o) (hf:R (s.put dst o)) (a:flat o=true) (hi:(ids.all λi=>decide (i<s.m.length))=true) (ht:Kz ids ds=true) (b:Nz (Lq s.m) ds ds'):Fv P k ds ids R s dst:=by
 refine⟨o,⟨λid hid=>?_,λm hm=>?_⟩,hf⟩
 .simp_all
 .exact Sz h (FE hm b ht) a ⟨rfl,rfl⟩
variable {m:List Ent} {S x y lo n s:Nat} {b:List D} {e:D}
theorem lq_own:Lq m (.own x y) (.sl S b)=(match m[x]? with|some (.live S' c a)=>S'=S/\c=y/\a=b/\fa a=true|_=>False):=maa rfl rfl
theorem lq_view:Lq m (.view x y lo n) (.sl S b)=(match m[x]? with|some (.live S' c a)=>S'=S/\c=y/\lo+n<=a.length/\(a.drop lo).take n=b/\fa b=true|_=>False):=maa rfl rfl
theorem lq_ref{z:Nat}:Lq m (.ref x y z s) (.pt e)=(match m[x]? with|some (.live _ b a)=>b=y/\s=0/\a[z]?=some e/\pa e=true|_=>False):=maa rfl rfl
theorem lq_v:Lq m (.v z) e=Sq [] [] 9 (.v z) e:=maa rfl rfl
theorem lq_agg{z:List D}:Lq m (.agg z) e=Sq [] [] 9 (.agg z) e:=maa rfl rfl
theorem lq_sl{z:List D}:Lq m (.sl S z) e=Sq [] [] 9 (.sl S z) e:=maa rfl rfl
theorem lq_pt{z:D}:Lq m (.pt z) e=Sq [] [] 9 (.pt z) e:=maa rfl rfl
theorem lq_fr{α:Type}{f:α->D} [Fr f] {l:List α}:fa (l.map f)=true:=Fr.l l
theorem lq_len{α:Type}{f:α->D}{l:List α}:(l.map f).length=l.length:=Waa f
end
variable {P:Program}
theorem rd_mv{s:St}:zm s (.op d g (.mv a))=[]:=maa rfl rfl
theorem sb_mv{s:St}:ag s (.mv a)=true:=maa rfl rfl
theorem rd_pick{s:St}:zm s (.op d g (.pick a b c))=[]:=maa rfl rfl
theorem sb_pick{s:St}:ag s (.pick a b c)=true:=maa rfl rfl
theorem rd_bin{s:St}{a:BinOp}:zm s (.op d g (.bin a b c))=[]:=maa rfl rfl
theorem sb_bin{s:St}{a:BinOp}:ag s (.bin a b c)=true:=maa rfl rfl
theorem rd_beq{s:St}{a:Bool}:zm s (.op d g (.beq a b c))=[]:=maa rfl rfl
theorem sb_beq{s:St}{a:Bool}:ag s (.beq a b c)=true:=maa rfl rfl
theorem rd_un{s:St}{a:UnOp}:zm s (.op d g (.un a b))=[]:=maa rfl rfl
theorem sb_un{s:St}{a:UnOp}:ag s (.un a b)=true:=maa rfl rfl
theorem rd_conv{s:St}{a:IntKind}:zm s (.op d g (.conv a b))=[]:=maa rfl rfl
theorem sb_conv{s:St}{a:IntKind}:ag s (.conv a b)=true:=maa rfl rfl
theorem T2{s:St}{a:Nat}{b:D}:zm s (.op d g (.alloc a b))=[]:=maa rfl rfl
theorem V3{s:St}{a:Nat}{b:D}:ag s (.alloc a b)=true:=maa rfl rfl
theorem rd_box{s:St}{a:Nat}:zm s (.op d g (.box a b))=[]:=maa rfl rfl
theorem sb_box{s:St}{a:Nat}:ag s (.box a b)=true:=maa rfl rfl
theorem U2{s:St}{a:List D}{b:List (Nat×Nat×Operand)}:zm s (.op d g (.build a b))=[]:=maa rfl rfl
theorem X3{s:St}{a:List D}{b:List (Nat×Nat×Operand)}:ag s (.build a b)=true:=maa rfl rfl
theorem kW{s:St}{a:Nat}{b:Nat}{c:D}{e:List (Nat×Operand)}:zm s (.op d g (.bslice a b c e))=[]:=maa rfl rfl
theorem xW{s:St}{a:Nat}{b:Nat}{c:D}{d:List (Nat×Operand)}:ag s (.bslice a b c d)=true:=maa rfl rfl
theorem rd_load{s:St}{b:Bool}{c:Nat}:zm s (.op d g (.load b c a))=qt s [a]:=maa rfl rfl
theorem sb_load{s:St}{a:Bool}{b:Nat}:ag s (.load a b c)=true:=maa rfl rfl
theorem K3{s:St}{b:Nat}:zm s (.op d g (.store b a c))=qt s [a]:=maa rfl rfl
theorem K4{s:St}{a:Nat}:ag s (.store a b c)=true:=maa rfl rfl
theorem rd_nilc{s:St}:zm s (.op d g (.nilc a))=[]:=maa rfl rfl
theorem sb_nilc{s:St}:ag s (.nilc a)=true:=maa rfl rfl
theorem J3{s:St}{b:Nat}{c:Option Operand}{e:Option Operand}{f:Option Operand}:zm s (.op d g (.slice b a c e f))=qt s [a]:=maa rfl rfl
theorem J4{s:St}{a:Nat}{c:Option Operand}{d:Option Operand}{e:Option Operand}:ag s (.slice a b c d e)=true:=maa rfl rfl
theorem V2{s:St}{a:Bool}{b:Nat}{c:Nat}:zm s (.op d g (.faddr a b c e))=[]:=maa rfl rfl
theorem Y3{s:St}{a:Bool}{b:Nat}{c:Nat}{d:Operand}:ag s (.faddr a b c d)=true:=maa rfl rfl
theorem W2{s:St}{a:Bool}{b:Nat}{c:Nat}:zm s (.op d g (.field a b c e))=[]:=maa rfl rfl
theorem Z3{s:St}{a:Bool}{b:Nat}{c:Nat}{d:Operand}:ag s (.field a b c d)=true:=maa rfl rfl
theorem Y2{s:St}{b:Nat}:zm s (.op d g (.iaddr b a c))=qt s [a]:=maa rfl rfl
theorem w4{s:St}{a:Nat}:ag s (.iaddr a b c)=true:=maa rfl rfl
theorem Q2{s:St}{a:Bool}{b:Nat}{c:Nat}{f:Operand}:zm s (.op d g (.aaddr a b c e f))=[]:=maa rfl rfl
theorem U3{s:St}{a:Bool}{b:Nat}{c:Nat}{d:Operand}:ag s (.aaddr a b c d e)=true:=maa rfl rfl
theorem Z2{s:St}{a:Bool}{b:Nat}{c:Nat}{f:Operand}:zm s (.op d g (.index a b c e f))=[]:=maa rfl rfl
theorem B4{s:St}{a:Bool}{b:Nat}{c:Nat}{d:Operand}:ag s (.index a b c d e)=true:=maa rfl rfl
theorem vQ{s:St}{b:Nat}:zm s (.op d g (.extract a b))=[]:=maa rfl rfl
theorem KQ{s:St}{b:Nat}:ag s (.extract a b)=true:=maa rfl rfl
theorem rd_len{s:St}:zm s (.op d g (.len a))=qt s [a]:=maa rfl rfl
theorem sb_len{s:St}:ag s (.len a)=true:=maa rfl rfl
theorem rd_slen{s:St}:zm s (.op d g (.slen a))=[]:=maa rfl rfl
theorem sb_slen{s:St}:ag s (.slen a)=true:=maa rfl rfl
theorem jW{s:St}{c:Nat}{e:Nat}:zm s (.op d g (.append c e a b))=qt s [a,b]:=maa rfl rfl
theorem wW{s:St}{b:Nat}{c:Nat}{d:Operand}:ag s (.append b c a d)=(match s.ev a with|.own ..=>true|_=>false):=maa rfl rfl
theorem wQ{s:St}{a:Nat}{b:Nat}{c:D}{f:Operand}:zm s (.op d g (.mkslice a b c e f))=[]:=maa rfl rfl
theorem LQ{s:St}{a:Nat}{b:Nat}{c:D}{d:Operand}:ag s (.mkslice a b c d e)=true:=maa rfl rfl
theorem lW{s:St}{a:FuncId}{b:List Operand}{c:List Operand}:zm s (.op d g (.mkfunc a b c))=[]:=maa rfl rfl
theorem yW{s:St}{a:FuncId}{b:List Operand}{c:List Operand}:ag s (.mkfunc a b c)=true:=maa rfl rfl
theorem rd_fail{s:St}  : zm s (.op d g (.fail))=[]:=maa rfl rfl
theorem sb_fail{s:St}  : ag s (.fail)=true:=maa rfl rfl
theorem rd_mm{s:St}{a:Bool}{b:List Operand}:zm s (.op d g (.mm a b))=[]:=maa rfl rfl
theorem sb_mm{s:St}{a:Bool}{b:List Operand}:ag s (.mm a b)=true:=maa rfl rfl
theorem rd_ceq{s:St}{a:Bool}{b:List Nat}:zm s (.op d g (.ceq a b c e))=[]:=maa rfl rfl
theorem sb_ceq{s:St}{a:Bool}{b:List Nat}{d:Operand}:ag s (.ceq a b c d)=true:=maa rfl rfl
theorem rd_strb{s:St}{a:Nat}:zm s (.op d g (.strb a b))=[]:=maa rfl rfl
theorem sb_strb{s:St}{a:Nat}:ag s (.strb a b)=true:=maa rfl rfl
theorem rd_sidx{s:St}:zm s (.op d g (.Nw a b))=[]:=maa rfl rfl
theorem sb_sidx{s:St}:ag s (.Nw a b)=true:=maa rfl rfl
theorem mW{s:St}{b:Option Operand}{c:Option Operand}:zm s (.op d g (.sslice a b c))=[]:=maa rfl rfl
theorem zW{s:St}{b:Option Operand}{c:Option Operand}:ag s (.sslice a b c)=true:=maa rfl rfl
theorem F3{s:St}  : zm s (.op d g (.mkmap))=[]:=maa rfl rfl
theorem G4{s:St}  : ag s (.mkmap)=true:=maa rfl rfl
theorem G3{s:St}{b:Nat}{c:Bool}{e:D}{f:Operand}:zm s (.op d g (.mlook b c e a f))=qt s [a]:=maa rfl rfl
theorem H4{s:St}{a:Nat}{b:Bool}{c:D}{d:Operand}:ag s (.mlook a b c d e)=true:=maa rfl rfl
theorem rd_mput{s:St}{a:Nat}:zm s (.op d g (.mput a b c e))=[]:=maa rfl rfl
theorem sb_mput{s:St}{a:Nat}{d:Operand}:ag s (.mput a b c d)=true:=maa rfl rfl
theorem rd_mlen{s:St}:zm s (.op d g (.mlen a))=qt s [a]:=maa rfl rfl
theorem sb_mlen{s:St}:ag s (.mlen a)=true:=maa rfl rfl
theorem L3{s:St}{b:Nat}{c:Option Operand}{e:Option Operand}:zm s (.op d g (.trunc b a c e))=qt s [a]:=maa rfl rfl
theorem L4{s:St}{b:Nat}{c:Option Operand}{d:Option Operand}:ag s (.trunc b a c d)=(match s.ev a with|.own ..=>true|_=>false):=maa rfl rfl
theorem D3{s:St}{a:TypeId}:zm s (.op d g (.mkifc a b))=[]:=maa rfl rfl
theorem F4{s:St}{a:TypeId}:ag s (.mkifc a b)=true:=maa rfl rfl
theorem xQ{s:St}{a:Bool}{b:TypeId}{c:D}:zm s (.op d g (.tassert a b c e))=[]:=maa rfl rfl
theorem MQ{s:St}{a:Bool}{b:TypeId}{c:D}{d:Operand}:ag s (.tassert a b c d)=true:=maa rfl rfl
theorem rd_clr{s:St}{a:Nat}{b:D}:zm s (.op d g (.clr a b c))=[]:=maa rfl rfl
theorem sb_clr{s:St}{a:Nat}{b:D}:ag s (.clr a b c)=true:=maa rfl rfl
theorem rd_capn{s:St}:zm s (.op d g (.capn a))=[]:=maa rfl rfl
theorem sb_capn{s:St}:ag s (.capn a)=true:=maa rfl rfl
theorem H3{s:St}{b:Bool}:zm s (.op d g (.Gp b a))=qt s [a]:=maa rfl rfl
theorem I4{s:St}{a:Bool}:ag s (.Gp a b)=true:=maa rfl rfl
theorem B3{s:St}{a:Nat}{b:Nat}{c:D}{f:Operand}:zm s (.op d g (.mkapp a b c e f))=[]:=maa rfl rfl
theorem D4{s:St}{a:Nat}{b:Nat}{c:D}{d:Operand}:ag s (.mkapp a b c d e)=true:=maa rfl rfl
section
variable {ps:List (List Nat)} {q k t:Nat} {b:Bool} {dst:Option Tmp} {i:I} {l:List RI} {K:St->Prop} {fp:List (List Nat)} {s:St} {args:List Operand} {R:List (List Nat)->St->Prop} {p f g:List Nat} {x y:Nat} {o:Operand} {os:List Operand} {st:List D} {m:List Ent} {S:Nat} {r:List D}
theorem N8:dv P ps 0 l K fp s=zh P l K s:=by simp only[dv]
theorem dy_op:dv P ps (q+1) (.op dst none i::l) K fp s=VV (dv P ps.tail q l K) fp (ps.headD []) dst i s:=by simp only[dv]
theorem dy_opg:dv P ps (q+1) (.op dst (some (t,b)) i::l) K fp ⟨st,m⟩=gD (st.getD t .dead) b (VV (dv P ps.tail q l K) fp (ps.headD []) dst i) ⟨st.set t (.v (.bool b)),m⟩ (skY (dv P ps.tail q l K) fp (ps.headD []) dst i) ⟨st.set t (.v (.bool (!b))),m⟩ ⟨st,m⟩:=by simp only[dv]
theorem M8:dv P ps (q+1) (.call dst none (.func k) args::l) K fp s=yY P (dv P ps.tail q l K) fp (ps.headD []) k dst args s:=by simp only[dv]
theorem WY:dv P ps (q+1) (.call dst (some (t,b)) (.func k) args::l) K fp ⟨st,m⟩=gD (st.getD t .dead) b (yY P (dv P ps.tail q l K) fp (ps.headD []) k dst args) ⟨st.set t (.v (.bool b)),m⟩ (cnY (dv P ps.tail q l K) fp (ps.headD []) dst args) ⟨st.set t (.v (.bool (!b))),m⟩ ⟨st,m⟩:=by simp only[dv]
theorem opY_q:VV R fp p dst i s=(rA fp (zm s (.op dst none i)) p=true/\ag s i=true/\Pp (da s i) (KO (R (fp++[zm s (.op dst none i)])) s dst)):=maa rfl rfl
theorem skY_q:skY R fp p dst i s=(rA fp (zm s (.op dst none i)) p=true/\R (fp++[zm s (.op dst none i)]) (s.put dst (.v undef))):=maa rfl rfl
theorem clY_q:yY P R fp p k dst args s=(rA fp (Fb s args) p=true/\Fv P k (args.map s.ev) (Fb s args) (R (fp++[Fb s args])) s dst):=maa rfl rfl
theorem cnY_q:cnY R fp p dst args s=(rA fp (Fb s args) p=true/\R (fp++[Fb s args]) (s.put dst (.v undef))):=maa rfl rfl
theorem td_nil:Fb s []=[]:=maa rfl rfl
theorem td_cons:Fb s (o::os)=Wl (s.ev o)++Fb s os:=maa rfl rfl
theorem id_v:Wl (.v z)=[]:=maa rfl rfl
theorem id_agg:Wl (.agg r)=Gk r:=maa rfl rfl
theorem id_tup:Wl (.tup r)=Gk r:=maa rfl rfl
theorem id_sl:Wl (.sl S r)=Gk r:=maa rfl rfl
theorem id_pt{d:D}:Wl (.pt d)=Wl d:=maa rfl rfl
theorem id_fn{a c:List D}:Wl (.fn k a c)=Gk a++Gk c:=maa rfl rfl
theorem Z9:Wl .dead=[]:=maa rfl rfl
theorem id_own:Wl (.own x y)=[x]:=maa rfl rfl
theorem id_ref{v:Nat}:Wl (.ref x y u v)=[x]:=maa rfl rfl
theorem aaa{v:Nat}:Wl (.view x y u v)=[x]:=maa rfl rfl
theorem id_nil:Gk []=[]:=maa rfl rfl
theorem Y9{d:D}:Gk (d::r)=Wl d++Gk r:=maa rfl rfl
theorem id_map{α:Type}{f:α->D} [Fr f] {l:List α}:Gk (l.map f)=[]:=cu (Fr.l l)
theorem W5:qt s []=[]:=maa rfl rfl
theorem OW:qt s (o::os)=(match Ud (s.ev o)with|some id=>id::qt s os|none=>qt s os):=maa rfl rfl
theorem ap_nil:rA fp f []=true:=maa rfl rfl
theorem X7:rA fp f (j::p)=(Qp (fp.getD j []) f&&rA fp f p):=maa rfl rfl
theorem ap_n1:Qp [] f=true:=maa rfl rfl
theorem ap_n2:Qp (x::g) f=(Mx x f&&Qp g f):=maa rfl rfl
theorem ap_0:Mx x []=true:=maa rfl rfl
theorem ap_s:Mx x (y::g)=(lN x y&&Mx x g):=maa rfl rfl
theorem ne_00:lN 0 0=false:=maa rfl rfl
theorem ne_0S:lN 0 (y+1)=true:=maa rfl rfl
theorem ne_S0:lN (x+1) 0=true:=maa rfl rfl
theorem ne_SS:lN (x+1) (y+1)=lN x y:=maa rfl rfl
theorem top_v:Ud (.v z)=none:=maa rfl rfl
theorem top_agg:Ud (.agg r)=none:=maa rfl rfl
theorem top_tup:Ud (.tup r)=none:=maa rfl rfl
theorem top_sl:Ud (.sl S r)=none:=maa rfl rfl
theorem top_pt{d:D}:Ud (.pt d)=none:=maa rfl rfl
theorem U5:Ud .dead=none:=maa rfl rfl
theorem top_own:Ud (.own x y)=some x:=maa rfl rfl
theorem top_ref{v:Nat}:Ud (.ref x y u v)=some x:=maa rfl rfl
theorem V5{v:Nat}:Ud (.view x y u v)=some x:=maa rfl rfl
theorem hd_n{l:List Nat}{ps:List (List Nat)}:(l::ps).headD []=l:=maa rfl rfl
theorem tl_n{l:List Nat}{ps:List (List Nat)}:(l::ps).tail=ps:=maa rfl rfl
theorem hd_0:([]:List (List Nat)).headD []=[]:=maa rfl rfl
theorem tl_0:([]:List (List Nat)).tail=[]:=maa rfl rfl
end
def zy:=(And.intro (And.intro (And.intro (And.intro (And.intro (And.intro (And.intro (And.intro @rd_mv @sb_mv) (And.intro @rd_pick @sb_pick)) (And.intro (And.intro @rd_bin @sb_bin) (And.intro @rd_beq @sb_beq))) (And.intro (And.intro (And.intro @rd_un @sb_un) (And.intro @rd_conv @sb_conv)) (And.intro (And.intro @T2 @V3) (And.intro @rd_box @sb_box)))) (And.intro (And.intro (And.intro (And.intro @U2 @X3) (And.intro @kW @xW)) (And.intro (And.intro @rd_load @sb_load) (And.intro @K3 @K4))) (And.intro (And.intro (And.intro @rd_nilc @sb_nilc) (And.intro @J3 @J4)) (And.intro (And.intro @V2 @Y3) (And.intro @W2 @Z3))))) (And.intro (And.intro (And.intro (And.intro (And.intro @Y2 @w4) (And.intro @Q2 @U3)) (And.intro (And.intro @Z2 @B4) (And.intro @vQ @KQ))) (And.intro (And.intro (And.intro @rd_len @sb_len) (And.intro @rd_slen @sb_slen)) (And.intro (And.intro @jW @wW) (And.intro @wQ @LQ)))) (And.intro (And.intro (And.intro (And.intro @lW @yW) (And.intro @rd_fail @sb_fail)) (And.intro (And.intro @rd_mm @sb_mm) (And.intro @rd_ceq @sb_ceq))) (And.intro (And.intro (And.intro @rd_strb @sb_strb) (And.intro @rd_sidx @sb_sidx)) (And.intro (And.intro @mW @zW) (And.intro @F3 @G4)))))) (And.intro (And.intro (And.intro (And.intro (And.intro (And.intro @G3 @H4) (And.intro @rd_mput @sb_mput)) (And.intro (And.intro @rd_mlen @sb_mlen) (And.intro @L3 @L4))) (And.intro (And.intro (And.intro @D3 @F4) (And.intro @xQ @MQ)) (And.intro (And.intro @rd_clr @sb_clr) (And.intro @rd_capn @sb_capn)))) (And.intro (And.intro (And.intro (And.intro @H3 @I4) (And.intro @B3 @D4)) (And.intro (And.intro @N8 @dy_op) (And.intro @dy_opg @M8))) (And.intro (And.intro (And.intro @WY @opY_q) (And.intro @skY_q @clY_q)) (And.intro (And.intro @cnY_q @td_nil) (And.intro @td_cons @id_v))))) (And.intro (And.intro (And.intro (And.intro (And.intro @id_agg @id_tup) (And.intro @id_sl @id_pt)) (And.intro (And.intro @id_fn @Z9) (And.intro @id_own @id_ref))) (And.intro (And.intro (And.intro @aaa @id_nil) (And.intro @Y9 @id_map)) (And.intro (And.intro @W5 @OW) (And.intro @ap_nil @X7)))) (And.intro (And.intro (And.intro (And.intro @ap_n1 @ap_n2) (And.intro @ap_0 @ap_s)) (And.intro (And.intro @ne_00 @ne_0S) (And.intro @ne_S0 @ne_SS))) (And.intro (And.intro (And.intro @top_v @top_agg) (And.intro @top_tup @top_sl)) (And.intro (And.intro @top_pt @U5) (And.intro @top_own @top_ref))))))) (And.intro (And.intro (And.intro (And.intro @V5 @hd_n) (And.intro @tl_n @hd_0)) (And.intro (And.intro @tl_0 @lq_own) (And.intro @lq_view @lq_ref))) (And.intro (And.intro (And.intro @lq_v @lq_agg) (And.intro @lq_sl @lq_pt)) (And.intro @lq_fr @lq_len))))
section
variable {P:Program} {N:Nat} {ops:Array Oper} {Q:Exit->Act->World->Prop} {K:St->Prop} {rl:List RI} {q:Nat} {ps:List (List Nat)} {pl:List (Option Nat)}
def B9(R:List (List Nat)->St->Prop) (fp:List (List Nat)) (p:List Nat) (k:Nat) (dst:Option Tmp) (i:I) (s:St):Prop:=
 rA fp [k] p=true/\match bn s k i with
  |some (d,e)=>R (fp++[[k]]) (({ s with m:=s.m.set k e }:St).put dst d)
  |none=>False
def lD(P:Program) (k:FuncId) (ds:List D) (ids:List Nat) (fp:List (List Nat)) (p:List Nat) (x:Nat) (f:D->Ent->Prop) (s:St):Prop:=
 (ids.elem x&&rA fp ids p)=true/\∃d e,((∀id∈ids,id<s.m.length)/\∀m,(∀id∈ids,m[id]?=s.m[id]?)->CallT P k ds m λd' m'=>d'=d/\m'=m.set x e)/\f d e
@[congr] theorem callE_congr{P:Program} {k:FuncId} {ds ds':List D} {ids a:List Nat} {fp b:List (List Nat)} {p c:List Nat} {x:Nat} {f:D->Ent->Prop} {s:St} (h1:ds=ds') (h2:ids=a) (h3:fp=b) (h4:p=c):lD P k ds ids fp p x f s=lD P k ds' a b c x f s:=by simp_all
def cwY(P:Program) (R:List (List Nat)->St->Prop) (fp:List (List Nat)) (p:List Nat) (x:Nat) (k:FuncId) (dst:Option Tmp) (args:List Operand) (s:St):Prop:=
 lD P k (args.map s.ev) (Fb s args) fp p x (λd e=>R (fp++[Fb s args]) (({ s with m:=s.m.set x e }:St).put dst d)) s
def qh(P:Program):List (Option Nat)->List (List Nat)->Nat->List RI->(St->Prop)->List (List Nat)->St->Prop
 |_,_,0,l,K,_,s=>zh P l K s
 |_,_,_+1,[],_,_,_=>False
 |some k::pl,ps,q+1,.op dst none i::l,K,fp,s=>B9 (qh P pl ps.tail q l K) fp (ps.headD []) k dst i s
 |none::pl,ps,q+1,.op dst none i::l,K,fp,s=>VV (qh P pl ps.tail q l K) fp (ps.headD []) dst i s
 |none::pl,ps,q+1,.op dst (some (t,b)) i::l,K,fp,s=>
  gD (s.t.getD t .dead) b (VV (qh P pl ps.tail q l K) fp (ps.headD []) dst i) ⟨s.t.set t (.v (.bool b)),s.m⟩ (skY (qh P pl ps.tail q l K) fp (ps.headD []) dst i) ⟨s.t.set t (.v (.bool (!b))),s.m⟩ s
 |none::pl,ps,q+1,.call dst none (.func k) args::l,K,fp,s=>yY P (qh P pl ps.tail q l K) fp (ps.headD []) k dst args s
 |some x::pl,ps,q+1,.call dst none (.func k) args::l,K,fp,s=>cwY P (qh P pl ps.tail q l K) fp (ps.headD []) x k dst args s
 |_,_,_+1,_::_,_,_,_=>False
theorem Qx:∀{q:Nat}{l:List RI}{pl:List (Option Nat)}{ps:List (List Nat)}{fp:List (List Nat)}{s:St},qh P pl ps q l K fp s->Dn P pl ps fp q l K s
 |0,l,pl,ps,fp,s,h=>by simp only[qh]at h;simp only[Dn];exact Xs h
 |q+1,[],pl,ps,fp,s,h=>by simp[qh]at h
 |q+1,.op dst none i::l,some k::pl,ps,fp,s,h=>by
  simp only[qh,B9]at h;obtain⟨j,h2⟩:=h;split at h2
  .rename_i d e hf;simp only[Dn];exact⟨j,trivial,d,e,hf,Qx h2⟩
  simp_all
 |q+1,.op dst none i::l,none::pl,ps,fp,s,h=>by
  simp only[qh,VV]at h;obtain⟨j,a,h2⟩:=h;simp only[Dn,gate];obtain⟨d,m',o,p⟩:=(Dl _ _).1 h2;exact⟨j,d,m',a,o,Qx p⟩
 |q+1,.op dst (some (t,b)) i::l,none::pl,ps,fp,⟨st,sm⟩,h=>by
  simp only[qh]at h;have h:=dG rfl h;have m:∀s,zm s (.op dst (some (t,b)) i)=zm s (.op dst none i):=λ_=>rfl;simp only[Dn];show rA fp (zm _ (.op dst (some (t,b)) i)) (ps.headD [])=true/\_;rw[m];split at h
  .simp_all
  .grind[gate]
  .rename_i c r u;refine⟨?_,?_⟩
   .by_cases hc:c=r
    .exact(h.1 hc).1
    .exact(h.2 hc).1
   rw[u];by_cases hc:c=r
   .obtain⟨j,a,h2⟩:=h.1 hc;obtain⟨d,m',o,p⟩:=(Dl _ _).1 h2;exact⟨λ_=>⟨d,m',a,o,Qx p⟩,λhn=>(hn hc).elim⟩
   .obtain⟨j,h2⟩:=h.2 hc;exact⟨λhn=>(hc hn).elim,λ_=>Qx h2⟩
 |q+1,.call dst none (.func k) args::l,none::pl,ps,fp,s,h=>by
  simp only[qh,yY,Fv]at h;obtain⟨a,d,j,h2⟩:=h;simp only[Dn,gate];exact⟨a,d,by simp_all,Qx h2⟩
 |q+1,.op dst g i::l,[],ps,fp,s,h=>by simp[qh]at h
 |q+1,.op dst (some g) i::l,some k::pl,ps,fp,s,h=>by simp[qh]at h
 |q+1,.call dst g f args::l,[],ps,fp,s,h=>by simp[qh]at h
 |q+1,.call dst none (.func k) args::l,some x::pl,ps,fp,s,h=>by
  simp only[qh,cwY,lD]at h;obtain⟨a,d,e,j,h2⟩:=h;simp only[zaa,List.elem_eq_mem,decide_eq_true_eq]at a;obtain⟨a,n⟩:=a;simp only[Dn];exact⟨trivial,a,n,d,e,by simp_all,Qx h2⟩
 |q+1,.call dst (some g) f args::l,some x::pl,ps,fp,s,h=>by simp[qh]at h
 |q+1,.call dst none (.tmp _) args::l,some x::pl,ps,fp,s,h=>by simp[qh]at h
 |q+1,.call dst none (.const _) args::l,some x::pl,ps,fp,s,h=>by simp[qh]at h
 |q+1,.call dst none (.global _) args::l,some x::pl,ps,fp,s,h=>by simp[qh]at h
 |q+1,.call dst none (.meth _ _) args::l,some x::pl,ps,fp,s,h=>by simp[qh]at h
 |q+1,.call dst (some g) f args::l,none::pl,ps,fp,s,h=>by simp[qh]at h
 |q+1,.call dst none (.tmp _) args::l,none::pl,ps,fp,s,h=>by simp[qh]at h
 |q+1,.call dst none (.const _) args::l,none::pl,ps,fp,s,h=>by simp[qh]at h
 |q+1,.call dst none (.global _) args::l,none::pl,ps,fp,s,h=>by simp[qh]at h
 |q+1,.call dst none (.meth _ _) args::l,none::pl,ps,fp,s,h=>by simp[qh]at h
theorem T.ao(hm:P.follows .mixedOrders=true) {bs:List (List Nat)}{l:List RI}{K:Exit->St->Prop}{s:St}(ps:List (List Nat)) (pl:List (Option Nat)) (a:Nu bs l q ps pl=true) (b:vA s.m pl=true) (h:qh P pl ps q l (K .normal) [] s):T P N (.any cuts q bs l) K s:=
 T.anyO hm ps pl a b (Qx h)
def Jz:List (Option Nat)->List RI->Bool
 |none::pl,_::l=>Jz pl l
 |some _::pl,.call ..::l=>Jz pl l
 |[],_=>true
 |_,_=>false
theorem FG:∀{pl:List (Option Nat)}{l:List RI},Jz pl l=true->∀i p,pO pl i=some p->∃a b c d,l[i]?=some (.call a b c d)
 |[],l,_,i,p,h=>by grind[pO]
 |none::pl,[],h,_,_,_=>by grind[Jz]
 |some _::pl,[],h,_,_,_=>by grind[Jz]
 |none::pl,y::l,h,0,p,h2=>by grind[pO]
 |none::pl,y::l,h,i+1,p,h2=>by
  simp only[Jz]at h;simpa using FG h i p (by grind[pO])
 |some x::pl,.call a b c d::l,h,0,p,h2=>⟨a,b,c,d,rfl⟩
 |some x::pl,.call a b c d::l,h,i+1,p,h2=>by
  simp only[Jz]at h;simpa using FG h i p (by grind[pO])
 |some x::pl,.op a b c::l,h,_,_,_=>by grind[Jz]
theorem T.dp(hm:P.follows .mixedOrders=true) {l:List RI}{K:Exit->St->Prop}{s:St}(ps:List (List Nat)) (pl:List (Option Nat)) (c:ps=Ix q) (a:Jz pl l=true) (b:vA s.m pl=true) (h:qh P pl ps q l (K .normal) [] s):T P N (.draw q l) K s:=by
 subst c;exact T.drawP hm (Ix q) pl (FG a) HL b (Qx h)
end
section
variable {P:Program} {pl:List (Option Nat)} {ps:List (List Nat)} {q k t:Nat} {b:Bool} {dst:Option Tmp} {i:I} {l:List RI} {K:St->Prop} {fp:List (List Nat)} {s:St} {st:List D} {m:List Ent} {args:List Operand} {R:List (List Nat)->St->Prop} {p:List Nat} {z:D} {S:Nat} {x:Operand}
theorem L8:qh P pl ps 0 l K fp s=zh P l K s:=by simp only[qh]
theorem do_fil:qh P (some k::pl) ps (q+1) (.op dst none i::l) K fp s=B9 (qh P pl ps.tail q l K) fp (ps.headD []) k dst i s:=by simp only[qh]
theorem do_op:qh P (none::pl) ps (q+1) (.op dst none i::l) K fp s=VV (qh P pl ps.tail q l K) fp (ps.headD []) dst i s:=by simp only[qh]
theorem do_opg:qh P (none::pl) ps (q+1) (.op dst (some (t,b)) i::l) K fp ⟨st,m⟩=gD (st.getD t .dead) b (VV (qh P pl ps.tail q l K) fp (ps.headD []) dst i) ⟨st.set t (.v (.bool b)),m⟩ (skY (qh P pl ps.tail q l K) fp (ps.headD []) dst i) ⟨st.set t (.v (.bool (!b))),m⟩ ⟨st,m⟩:=by simp only[qh]
theorem K8:qh P (none::pl) ps (q+1) (.call dst none (.func k) args::l) K fp s=yY P (qh P pl ps.tail q l K) fp (ps.headD []) k dst args s:=by simp only[qh]
theorem VY{x:Nat}:qh P (some x::pl) ps (q+1) (.call dst none (.func k) args::l) K fp s=cwY P (qh P pl ps.tail q l K) fp (ps.headD []) x k dst args s:=by simp only[qh]
theorem cwY_q{R:List (List Nat)->St->Prop}{p:List Nat}{x:Nat}:cwY P R fp p x k dst args s=lD P k (args.map s.ev) (Fb s args) fp p x (λd e=>R (fp++[Fb s args]) (({ s with m:=s.m.set x e }:St).put dst d)) s:=maa rfl rfl
theorem filY_q:B9 R fp p k dst i s=(rA fp [k] p=true/\match bn s k i with|some (d,e)=>R (fp++[[k]]) (({ s with m:=s.m.set k e }:St).put dst d)|none=>False):=maa rfl rfl
theorem wZ:bn s k (.alloc S z)=(match s.m[k]? with|some (.live S' Ma [])=>if S'=S then some (.ref k (Ma+1) 0 0,.live S (Ma+1) [z])else none|_=>none):=maa rfl rfl
theorem fi_box:bn s k (.box S x)=(match s.m[k]? with|some (.live S' Ma [])=>if S'=S/\(s.ev x).ok=true/\fu S (s.ev x).cells=true then some (.ref k (Ma+1) 0 0,.live S (Ma+1) [s.ev x])else none|_=>none):=by simp only[jr];rfl
theorem fi_bsl{n:Nat}{qs:List (Nat×Operand)}:bn s k (.bslice S n z qs)=(match s.m[k]? with|some (.live S' Ma [])=>if S'=S then(wc s S qs (oaa n z)).map λl=>(.own k (Ma+1),.live S (Ma+1) l)else none|_=>none):=maa rfl rfl
end
def zo:=(And.intro (And.intro (And.intro (And.intro @L8 @do_fil) (And.intro @do_op @do_opg)) (And.intro (And.intro @K8 @VY) (And.intro @cwY_q @filY_q))) (And.intro (And.intro @wZ @fi_box) @fi_bsl))
theorem IT{G G':Gh}{w w':World}(b:SubF G w G' w') {d d':D}(hd:∀u,VRel G w d u->VRel G' w' d' u) {post:List D}(a:fa post=true) :
 ∀{pre:List D} {us:List Value},fa pre=true->VsRel G w (pre++d::post) us->VsRel G' w' (pre++d'::post) us
 |[],us,_,h=>by
  simp only[Qaa,VsRel]at h⊢;obtain⟨u,r,rfl,c,h2⟩:=h;exact⟨u,r,rfl,hd u c,VsRel.free b a h2⟩
 |p::pre,us,e,h=>by
  simp only[fa,zaa]at e;simp only[Gaa,VsRel]at h⊢;obtain⟨u,r,rfl,c,h2⟩:=h;exact⟨u,r,rfl,VRel.free b e.1 c,IT b hd a e.2 h2⟩
section
variable {P:Program}
end
variable {P:Program}
def CallZ(P:Program) (f:FuncId) (ds:List D) (m:List Ent) (R:D->List Ent->Prop):Prop:=
 Enters P f/\∀(G:Gh) (w:World) (vs:List Value),VsRel G w ds vs->Inv G w m->
  Calls P f vs.toArray w λe w'=>∃v d m' G',e=.returned v/\R d m'/\VRel G' w' d v/\Inv G' w' m'/\StepN 0 G w m G' w' m'
theorem pY{f:FuncId}{ds:List D}(g:Hv P f=some F) (hname:((P.funcs[f]?).map λfn=>fn.name == "runtime.NumGoroutine")=some false)
 (h:T P 0 F.code (Mz F.results R) ⟨ds++oaa (F.ntmps-ds.length) .dead,m⟩):CallZ P f ds m R:=by
 unfold Hv at g;split at g
 .rename_i fn i;split at g
  .rename_i b r hb k;simp only[paa]at g;obtain⟨c,hc,rfl⟩:=g;refine⟨⟨fn,i,by simp_all,by simp_all⟩,λG w vs hv hi=>?_⟩;refine calls_of_wp i hb ?_;have j:=hv.length;have hr:Rel G w { tmps:=vs.toArray++Array.replicate (fn.ntmps-vs.toArray.size) undef,defers:=[] } ⟨ds++oaa (fn.ntmps-ds.length) .dead,m⟩:=by
    refine⟨?_,hi,rfl⟩;simp only[Array.toList_append,Array.toList_replicate,List.size_toArray,j];exact hv.append (kL _ _ _)
   refine Code.wp_mono ?_ (h b hc G w _ (qab _) hr);rintro e a' w' ⟨s',G',n,a,p⟩;have fin:(∃ds,yb s' r=some ds/\R (qo ds) s'.m)->a'.defers=[]/\∃v,(results fn a'.tmps).run P w'=.ok v w'/\∃v_1 d m' G',Ending.returned v=.returned v_1/\R d m'/\VRel G' w' d v_1/\Inv G' w' m'/\StepN 0 G w m G' w' m':=by
    rintro⟨es,o,s⟩;obtain⟨v,l,q⟩:=SD (F:=⟨fn.ntmps,r,c⟩) k a o;exact⟨a.defers,v,l,v,_,_,G',rfl,s,q,a.inv,p⟩
   cases e with
   |normal=>exact fin n
   |ret=>exact fin n
   |_=>exact n.elim
  simp_all
 simp_all
theorem frameC{S:Nat}{l:List D}{o:D}
 (q:m[id]?=some (.live S Ma l)) (I:fa pre=true) (z:fa post=true) (hl:fa l=true)
 (h:CallZ P k (pre++.own 0 0::post) [.live S 0 l] λd m'=>Sbs [] m' [d] [o]) :
 CallT P k (pre++.own id Ma::post) m λd m'=>d=o/\m'=m.set id .gone:=by
 refine⟨h.1,λG w vs hv hi=>?_⟩;have hlen:id<m.length:=(fab.1 q).1;obtain⟨eV,eS,eN,eC,eB⟩:=hi.ent id _ q;have E:SubF G w ⟨G.F,1,λ_=>G.B id,λ_=>0,λ_=>G.S id,λ_=>G.N id,λ_=>G.C id⟩ w:=⟨λ_ h=>h,λ_ _=>rfl⟩;have U:=IT E (d:=.own id Ma) (d':=.own 0 0) (λu hu=>by
  simp only[VRel]at hu⊢
  grind) z I hv
 have O:Inv ⟨G.F,1,λ_=>G.B id,λ_=>0,λ_=>G.S id,λ_=>G.N id,λ_=>G.C id⟩ w [.live S 0 l]:=by
  refine⟨rfl,hi.F,?_,?_,hi.gl.bare λ_ h=>h⟩
  .intro i e he
   cases i with
   |zero=>
    simp at he;subst he;refine⟨rfl,eS,eN,eC,?_⟩;rcases eB with h|⟨b,cs,T,g,h2,L,W,Z⟩
    .simp_all
    .exact .inr ⟨b,cs,T,g,h2,L,W,Na.free E rfl hl Z⟩
   |succ i=>simp at he
  grind
 have c:∀b,Bf ⟨G.F,1,λ_=>G.B id,λ_=>0,λ_=>G.S id,λ_=>G.N id,λ_=>G.C id⟩ [.live S 0 l] b->G.B id=some b:=by
  rintro b ⟨i,e,he,-,J⟩;omega
 refine(h.2 _ w vs U O).mono ?_;rintro e w' ⟨v,d,m',G',rfl,X,hvd,t,a⟩;have live1:(Ent.live S Ma l).isLive=true:=rfl;have Y:=(X.rel t (λi j v h=>by grind)).1 [v] (by simp only[VsRel];simp_all);simp only[VsRel]at Y;obtain⟨u,us,he,g,_⟩:=Y;injection he with he _;subst he;have s:=fH X;simp only[fa,sac]at s;have H:Le G w ⟨λb=>G'.F b\/Bf G' m' b,G.n,G.B,G.V,G.S,G.N,G.C⟩ w':=by
  refine⟨λb hb=>.inl (a.F b hb),λb hb=>a.heap b hb,Haa _,λi _=>.inl (by simp)⟩
 have A:∀i x,m[i]?=some x->x.isLive=true->∀b,G.B i=some b->b<w.heap.size/\¬G.F b:=λi x hx hl b hb=>(hi.ent i x hx).lt hl hb;have notO:∀i x,m[i]?=some x->x.isLive=true->i≠id->∀b,G.B i=some b->G.B id≠some b:=λi x hx f Q b hb J=>Q (hi.apart i id x _ hx q f live1 b hb J);have p:∀i x,(m.set id .gone)[i]?=some x->(m[i]?=some x/\i≠id)\/(i=id/\x=.gone):=by
  grind
 refine⟨v,o,_,⟨λb=>G'.F b\/Bf G' m' b,G.n,G.B,G.V,G.S,G.N,G.C⟩,rfl,⟨rfl,rfl⟩,?_,⟨by simp[hi.n],?_,?_,?_,t.gl.bare λ_ h=>.inl h⟩,⟨H,a.os,a.tape,a.output,a.size,?_,?_,?_⟩⟩
 .refine VRel.free (G:=ob G' m' []) ⟨?_,λ_ _=>rfl⟩ s g;rintro b (hb|⟨hb,_⟩)
  all_goals simp_all
 .rintro b (hb|hb)
  .exact t.F b hb
  .exact(Bf.lt t hb).1
 .intro i x hx;rcases p i x hx with⟨g,h2⟩|⟨rfl,rfl⟩
  .by_cases f:x.isLive=true
   .refine(hi.ent i x g).mono H (by simp) (λb hb=>?_) (λb hb _ r=>?_)
    .exact a.keep b (A i x g f b hb).1 λho=>notO i x g f h2 b hb (c b ho)
    .rcases r with r|r
     .rcases a.newF b (A i x g f b hb).1 r with h|h
      all_goals grind
     .exact(notO i x g f h2 b hb (c b (a.newB b (A i x g f b hb).1 r))).elim
   .cases x with
    |gone=>trivial
    |_=>grind[Ent.isLive]
  .trivial
 .intro i j x y hx hy K ly b hb M;rcases p i x hx with⟨g,h2⟩|⟨rfl,rfl⟩
  .rcases p j y hy with⟨L,W⟩|⟨rfl,rfl⟩
   .exact hi.apart i j x y g L K ly b hb M
   grind
  grind
 .intro b hb R;exact a.keep b hb λho=>R ⟨id,_,q,live1,c b ho⟩
 .intro b hb r;rcases r with r|r
  .rcases a.newF b hb r with h|h
   .simp_all
   .exact .inr ⟨id,_,q,live1,c b h⟩
  .exact .inr ⟨id,_,q,live1,c b (a.newB b hb r)⟩
 .rintro b hb ⟨i,x,hx,K,J⟩;rcases p i x hx with⟨g,h2⟩|⟨rfl,rfl⟩
  .exact⟨i,x,g,K,J⟩
  .cases K
def WE(P:Program) (k:Nat) (pre post:List D) (S:Nat) (l:List D) (o:D):Prop:=∀m id Ma,m[id]?=some (.live S Ma l)->CallT P k (pre++.own id Ma::post) m λd m'=>d=o/\m'=m.set id .gone
def yX(P:Program) (k:Nat) (pre post:List D) (S:Nat) (l l':List D) (o:D):Prop:=∀m id Ma,m[id]?=some (.live S Ma l)->CallT P k (pre++.own id Ma::post) m λd m'=>d=o/\m'=m.set id (.live S Ma l')
theorem WE.at{S:Nat}{l:List D}{o:D}(n:Nat) (j:Hv P k=some F) (b:((P.funcs[k]?).map λfn=>fn.name == "runtime.NumGoroutine")=some false)
 (f:fa pre=true) (c:fa post=true) (hl:fa l=true) (hn:F.ntmps=(pre++.own 0 0::post).length+n)
 (h:T P 0 F.code (Bv F.results o) ⟨(pre++.own 0 0::post)++Tm.ds n [],[.live S 0 l]⟩):WE P k pre post S l o:=by
 intro m id Ma hm;refine frameC hm f c hl (pY j b ?_);rw[hn,Nat.add_sub_cancel_left,←vC];refine T.zY (h.mono ?_);have key:∀(e:Exit) (s:St),(∀s',Mz F.results (λd m'=>Sbs [] m' [d] [o]) e s' = ∃ds,yb s' F.results=some ds/\Sbs [] s'.m [qo ds] [o])->(∃S,Tells 0 s S/\∃ds,yb S F.results=some ds/\Sbs [] S.m [qo ds] [o])->yL 0 (Mz F.results λd m'=>Sbs [] m' [d] [o]) e s:=by
  intro e s he ⟨S,i,h2⟩ G w a hN hr;obtain⟨G',h3,h4⟩:=tr i hN hr
  grind
 intro e s g
 cases e with
 |normal=>exact key _ s (λ_=>rfl) g
 |ret=>exact key _ s (λ_=>rfl) g
 |_=>exact(g:False).elim
theorem xR{S:Nat}{l ds:List D}{o:D}(h:WE P k pre post S l o) (a:ds=pre++.own id Ma::post) (hm:m[id]?=some (.live S Ma l)) (hf:f o (m.set id .gone)):Ye P k ds m f:=by
 subst a;exact Ub (h m id Ma hm) hf
theorem v8{S:Nat}{l l' ds:List D}{o:D}(h:yX P k pre post S l l' o) (a:ds=pre++.own id Ma::post) (hm:m[id]?=some (.live S Ma l)) (hf:f o (m.set id (.live S Ma l'))):Ye P k ds m f:=by
 subst a;exact Ub (h m id Ma hm) hf
theorem II{v:Value}(a:Enters P k) (h:∀w,Calls P k vs.toArray w λe w'=>e=.returned v/\w'=w):Den P k (vs.map .v) (.v v):=by
 refine λm=>⟨a,λG w us hv hi=>?_⟩;have:∀(vs us:List Value),VsRel G w (vs.map .v) us->us=vs:=by
  intro vs
  induction vs with
  |nil=>intro us h;simpa [VsRel] using h
  |cons x l ih=>
   intro us h;simp only[vaa,VsRel,VRel]at h
   grind
 obtain rfl:=this vs us hv;refine(h w).mono ?_;rintro e w' ⟨rfl,rfl⟩;exact⟨_,_,_,G,rfl,⟨rfl,rfl⟩,by simp[VRel],hi,Step.refl _ _ _⟩
open Go.Sort
variable {P:Program}
def eI(n:Int):D:=.v (.int .i64 n)
theorem VG{G:Gh}{w:World}{b:Nat}:∀{zs:List Int}{off:Nat},Na G w b 1 (zs.map eI) off->∀j (h:j<zs.length),w.cell? ⟨b,off+j,none⟩=some (.int .i64 zs[j])
 |[],_,_,j,h=>absurd h (mae j)
 |z::zs,off,hr,j,h=>by
  simp only[vaa,Na]at hr;obtain⟨⟨u,a,h2,c⟩,d⟩:=hr;simp only[eI,VRel]at a;subst a
  cases j with
  |zero=>exact(c 0 (.int .i64 z) rfl).2
  |succ j=>
   have:=VG d j (by simp_all)
   grind
theorem FQ{G:Gh}{w:World}{b:Nat}:∀{zs:List Int}{off:Nat},(∀j (h:j<zs.length),w.cell? ⟨b,off+j,none⟩=some (.int .i64 zs[j]))->Na G w b 1 (zs.map eI) off
 |[],_,_=>by simp[Na]
 |z::zs,off,hr=>by
  simp only[vaa,Na];refine⟨⟨.int .i64 z,by simp[eI,VRel],rfl,?_⟩,FQ λj h=>?_⟩
  .intro j c hc
   cases j with
   |zero=>
    have:c=.int .i64 z:=by grind[Value.cells]
    subst this;exact⟨rfl,hr 0 (Mae _)⟩
   |succ j=>grind[Value.cells]
  .have:=hr (j+1) (by simp_all)
   grind
theorem holds_of{b:Nat}{T:TypeId}{zs:List Int}(hb:w.heap[b]?=some (.cells cs T (0,0))) (h:∀j (h:j<zs.length),w.cell? ⟨b,off+j,none⟩=some (.int .i64 zs[j])):Holds (Value.int .i64) w b off zs.toArray:=by
 intro j hj
 grind[World.frozen?]
theorem XS{b:Nat}{T:TypeId}{n:Nat}{os:Array Obj}(hb:w.heap[b]?=some (.cells cs T (0,0))) (hlen:off+ys.length<=cs.size) (hw:w'=grow (putRow (Value.int .i64) (Sort.ahead w n) b off ys.toArray) os) :
 w'.os=w.os/\w'.tape=w.tape/\w'.output=w.output/\w.heap.size<=w'.heap.size/\(∀k,k<w.heap.size->k≠b->w'.heap[k]?=w.heap[k]?)/\
  w'.heap[b]?=some (.cells (putCells (Value.int .i64) off ys.toArray cs) T (0,0))/\∀j (h:j<ys.length),w'.cell? ⟨b,off+j,none⟩=some (.int .i64 ys[j]):=by
 subst hw;have hbs:b<w.heap.size:=by
  grind
 have a:(grow (putRow (Value.int .i64) (Sort.ahead w n) b off ys.toArray) os).heap=w.heap.modify b (onCells (putCells (Value.int .i64) off ys.toArray))++os:=rfl;have c:(grow (putRow (Value.int .i64) (Sort.ahead w n) b off ys.toArray) os).heap[b]?=some (.cells (putCells (Value.int .i64) off ys.toArray cs) T (0,0)):=by
  rw[a,Array.getElem?_append_left (by simp_all),Array.getElem?_modify,if_pos rfl,hb];rfl
 refine⟨rfl,rfl,rfl,?_,?_,c,?_⟩
 all_goals grind[World.cell?,putCells]
theorem fP{k:FuncId}(s:Enters P k) {zs:List Int}(hm:m[id]?=some (.live 1 Ma (zs.map eI))) (hlen:ys.length=zs.length)
 (p:∀w b off cap,Holds (Value.int .i64) w b off zs.toArray->b<w.heap.size->Calls P k #[.slice (some ⟨b,off,none⟩) zs.length cap] w λe w'=>e=.returned (.tuple #[])/\∃n os,w'=grow (putRow (Value.int .i64) (Sort.ahead w n) b off ys.toArray) os)
 (o:∀w cap,Calls P k #[.slice none 0 cap] w λe w'=>e=.returned (.tuple #[])/\w'=w) :
 CallT P k [.own id Ma] m λd m'=>d=.tup []/\m'=m.set id (.live 1 Ma (ys.map eI)):=by
 refine⟨s,λG w vs hv hi=>?_⟩;obtain⟨eV,eS,eN,eC,eB⟩:=hi.ent id _ hm;simp only[VsRel,VRel]at hv;obtain⟨u,r,rfl,⟨a,n,c,rfl,g1,g2,g3⟩,rfl⟩:=hv;obtain⟨rfl,rfl,rfl⟩:=g3 eV;simp only[Waa]at eN eC;rcases eB with⟨f,q⟩|⟨b,cs,T,f,t,hb,hc,hr⟩
 .have g:=congrArg Gae q;dsimp only at g;have x:zs=[]:=Laa (by omega);have v:ys=[]:=Laa (by omega);subst x v;rw[f,eN];refine(o w _).mono ?_;rintro e w' ⟨rfl,rfl⟩;refine⟨_,_,_,G,rfl,⟨rfl,rfl⟩,by simp[VRel,VsRel],?_,?_⟩
  .have:m.set id (.live 1 Ma (([]:List Int).map eI))=m:=by
    apply kac
    grind
   simp_all
  .have:m.set id (.live 1 Ma (([]:List Int).map eI))=m:=by
    apply kac
    grind
   grind[Step.refl]
 .rw[f,eN];have i:b<w.heap.size:=by
   grind
  refine(p w b _ _ (holds_of hb (VG hr)) i).mono ?_;rintro e w' ⟨rfl,n,os,hw⟩;obtain⟨y,z,A,D,E,F,p7⟩:=XS hb (by omega) hw;have l:=tg (w':=w') hi hm rfl (e':=.live 1 Ma (ys.map eI)) rfl (G.B id) Ma (G.N id) (G.C id) (.inr ⟨eV.symm,rfl,rfl,rfl⟩) y z A D
   (λk hk j=>E k hk (λh=>j (by rw[f,h]))) (λk hk=>.inl hk) (by
    refine⟨by simp[Gh.Uf],by grind[Gh.Uf],by grind[Gh.Uf],by grind[Gh.Uf],.inr ⟨b,_,T,by grind[Gh.Uf],t,F,?_,FQ (by grind[Gh.Uf])⟩⟩
    grind[Gh.Uf,putCells])
  exact⟨_,_,_,_,rfl,⟨rfl,rfl⟩,by simp[VRel,VsRel],l.1,l.2⟩
theorem eP{k:FuncId}(s:Enters P k) {zs:List Int}(hm:m[id]?=some (.live 1 Ma (zs.map eI))) (hlen:ys.length<=zs.length)
 (p:∀w b off cap,Holds (Value.int .i64) w b off zs.toArray->zs.length<=cap->Calls P k #[.slice (some ⟨b,off,none⟩) zs.length cap] w λe w'=>e=.returned (.slice (some ⟨b,off,none⟩) ys.length cap)/\∃n xs,xs.length+ys.length=zs.length/\w'=grow (putRow (Value.int .i64) (Sort.ahead w n) b off (ys++xs).toArray) #[])
 (o:∀w cap,Calls P k #[.slice none 0 cap] w λe w'=>e=.returned (.slice none 0 cap)/\w'=w) :
 CallT P k [.own id Ma] m λd m'=>d=.own id (Ma+1)/\m'=m.set id (.live 1 (Ma+1) (ys.map eI)):=by
 refine⟨s,λG w vs hv hi=>?_⟩;obtain⟨eV,eS,eN,eC,eB⟩:=hi.ent id _ hm;simp only[VsRel,VRel]at hv;obtain⟨u,r,rfl,⟨a,n,c,rfl,g1,g2,g3⟩,rfl⟩:=hv;obtain⟨rfl,rfl,rfl⟩:=g3 eV;simp only[Waa]at eN eC;rcases eB with⟨i,q⟩|⟨b,cs,T,i,t,hb,hc,hr⟩
 .have l:=congrArg Gae q;dsimp only at l;have x:zs=[]:=Laa (by omega);have v:ys=[]:=Laa (by omega);subst x v;rw[i,eN];refine(o w _).mono ?_;rintro e w' ⟨rfl,rfl⟩;have f:=tg (w':=w') hi hm rfl (e':=.live 1 (Ma+1) (([]:List Int).map eI)) rfl none (Ma+1) 0 (G.C id) (.inl (by omega)) rfl rfl rfl (Haa _)
   (λk hk g=>rfl) (λk hk=>by grind) (by
    refine⟨by simp[Gh.Uf],by grind[Gh.Uf],by simp[Gh.Uf],by simp,.inl ⟨by simp[Gh.Uf],by grind[Gh.Uf]⟩⟩)
  refine⟨_,_,_,_,rfl,⟨rfl,rfl⟩,?_,f.1,f.2⟩;simp only[VRel];exact⟨_,_,_,rfl,g1,by simp[Gh.Uf],λ_=>by simp[Gh.Uf]⟩
 .rw[i,eN];refine(p w b _ _ (holds_of hb (VG hr)) eC).mono ?_;rintro e w' ⟨rfl,n,xs,hx,hw⟩;obtain⟨y,z,A,D,E,F,p7⟩:=XS hb (by grind) hw;have f:=tg (w':=w') hi hm rfl (e':=.live 1 (Ma+1) (ys.map eI)) rfl (G.B id) (Ma+1) ys.length (G.C id) (.inl (by omega)) y z A D
   (λk hk g=>E k hk (λh=>g (by rw[i,h]))) (λk hk=>.inl hk) (by
    refine⟨by simp[Gh.Uf],by grind[Gh.Uf],by simp[Gh.Uf],by grind[Gh.Uf],.inr ⟨b,_,T,by grind[Gh.Uf],t,F,?_,FQ λj h=>?_⟩⟩
    all_goals grind[Gh.Uf,putCells])
  refine⟨_,_,_,_,rfl,⟨rfl,rfl⟩,?_,f.1,f.2⟩;simp only[VRel];exact⟨_,_,_,rfl,g1,by simp[Gh.Uf],λ_=>by grind[Gh.Uf]⟩
theorem RY{k:FuncId}(f:Enters P k) {zs:List Int}(a:ys.length=zs.length)
 (d:∀w b off cap,Holds (Value.int .i64) w b off zs.toArray->b<w.heap.size->Calls P k #[.slice (some ⟨b,off,none⟩) zs.length cap] w λe w'=>e=.returned (.tuple #[])/\∃n os,w'=grow (putRow (Value.int .i64) (Sort.ahead w n) b off ys.toArray) os)
 (c:∀w cap,Calls P k #[.slice none 0 cap] w λe w'=>e=.returned (.tuple #[])/\w'=w):yX P k [] [] 1 (zs.map eI) (ys.map eI) (.tup []):=
 λm id Ma hm=>fP f hm a d c
variable {P:Program} {N:Nat}
theorem VsRel.swap{l:List D}{us:List Value}{d:D}{u:Value}(h:VsRel G w l us) (hu:us.getD i undef=u) (hi:i<l.length) (hd:VRel G w d u):VsRel G w (l.set i d) us:=by
 have:=h.set hd i;have hlen:=h.length;have he:us.set i u=us:=by
  apply kac
  grind
 simp_all
theorem T.Gp{i j d S:Nat}{l:List D}{neg:Bool}{s:St}{K:Exit->St->Prop}(A:s.t[i]?=some (.sl S l)) (hl:fa l=true) (hj:j<s.t.length) (hij:i≠j) (hjd:j≠d) (hid:i≠d)
 (h:∀b,(l≠[]->b=neg)->K .normal ⟨(s.t.set j (.sl S l)).set d (.v (.bool b)),s.m⟩) :
 T P N (.QK [.op (some j) none (.mv (.tmp i)),.op (some d) none (.Gp neg (.tmp j))]) K s:=by
 intro code hc G w a hN hr;have hi:i<s.t.length:=(fab.1 A).1;obtain⟨u,hu,hv⟩:=hr.t.getElem A;have q:=hv;simp only[VRel]at q;obtain⟨p,n,c,rfl,hn,hnc,z⟩:=q;have x:a.tmps.toList.getD i undef=.slice p n c:=by simp_all
 have y:Rel G w a ⟨s.t.set i (.v (.slice p n c)),s.m⟩:=⟨hr.t.swap x hi (by simp[VRel]),hr.inv,hr.defers⟩;have B:T P N (.QK [.op (some j) none (.mv (.tmp i)),.op (some d) none (.Gp neg (.tmp j))]) (λe s'=>e=.normal/\s'=⟨((s.t.set i (.v (.slice p n c))).set j (.v (.slice p n c))).set d (.v (.bool (p.isNone !=neg))),s.m⟩) ⟨s.t.set i (.v (.slice p n c)),s.m⟩:=by
  refine T.QK ?_;have e1:((s.t.set i (.v (.slice p n c))).getD i .dead)=.v (.slice p n c):=by simp_all
  have e2:((s.t.set i (.v (.slice p n c))).set j (.v (.slice p n c))).getD j .dead=.v (.slice p n c):=by
   simp_all
  simp only[wj,gate,da,St.ev,e1,e2,St.put,Vaa,Naa,exists_and_left,exists_eq_left',and_assoc,true_and]
 refine Code.wp_mono ?_ (B code hc G w a hN y);rintro e a' w' ⟨s',G',⟨rfl,rfl⟩,h2,r⟩;have o:VRel G' w' (.sl S l) (.slice p n c):=VRel.free ⟨r.F,r.heap⟩ (by grind[pa]) hv;refine⟨⟨(s.t.set j (.sl S l)).set d (.v (.bool (p.isNone !=neg))),s.m⟩,G',h _ ?_,⟨?_,h2.inv,h2.defers⟩,r⟩
 .intro hne;rcases z with z|⟨b,off,rfl,-⟩
  all_goals simp_all
 .have f:=h2.t;have g:∀k,(((s.t.set i (.v (.slice p n c))).set j (.v (.slice p n c))).set d (.v (.bool (p.isNone !=neg))))[k]?=some (.v (.slice p n c))->a'.tmps.toList.getD k undef=.slice p n c:=by
   intro k hk;obtain⟨u,h1,h2⟩:=f.getElem hk;simp only[VRel]at h2
   simp_all
  have gi:=g i (by grind);have gj:=g j (by grind);have C:=f.swap gi (by simp_all) o;have k2:=C.swap gj (by simp_all) o;have:((((s.t.set i (.v (.slice p n c))).set j (.v (.slice p n c))).set d (.v (.bool (p.isNone !=neg)))).set i (.sl S l)).set j (.sl S l)=(s.t.set j (.sl S l)).set d (.v (.bool (p.isNone !=neg))):=by
   apply kac
   grind
  simp_all
theorem sq_free{n:Nat}{d:D}(h:pa d=true):Sq ρ m (n+1) d d:=by
 cases d with
 |v x=>exact rfl
 |agg a=>exact .inl ⟨rfl,by grind[pa]⟩
 |tup a=>exact .inl ⟨rfl,by grind[pa]⟩
 |sl S a=>exact⟨rfl,.inl ⟨rfl,by grind[pa]⟩⟩
 |pt d=>exact .inl ⟨rfl,by grind[pa]⟩
 |fn f a c=>
  simp only[pa,zaa]at h;exact⟨rfl,.inl ⟨rfl,h.1⟩,.inl ⟨rfl,h.2⟩⟩
 |dead=>exact trivial
 |ifc t d=>exact⟨rfl,.inl ⟨rfl,by grind[pa]⟩⟩
 |own=>grind[pa]
 |ref=>grind[pa]
 |view=>grind[pa]
 |mp=>grind[pa]
def compIU(E:List (Nat×List Nat)) (P:Program) (ops:Array Oper) (o:Oper) (op:Op):Option I:=
 match op with
 |.binOp b t x y _=>
  match E.lookup t with
  |some ks=>some (.ceq (decide (b=.neq)) ks x y)
  |none=>Oq P ops o op
 |_=>Oq P ops o op
def F8(E:List (Nat×List Nat)) (P:Program) (ops:Array Oper) (o:Oper):Option RI:=
 match guardOf ops o.guard with
 |none=>none
 |some g=>
  match TJ P o.op with
  |some (f,args)=>some (.call o.dst g f args)
  |none=>(compIU E P ops o o.op).map λi=>.op o.dst g i
def yF(E:List (Nat×List Nat)) (P:Program) (ops:Array Oper):List Oper->Option (List RI)
 |[]=>some []
 |o::l=>
  match F8 E P ops o,yF E P ops l with
  |some r,some rs=>some (r::rs)
  |_,_=>none
def Ez(E:List (Nat×List Nat)) (P:Program):Code->Option C
 |.skip=>some .skip
 |.region _ ops false=>(yF E P ops ops.toList).map .QK
 |.region _ ops true=>
  match yF E P ops ops.toList with
  |some rl=>
   if uC (ub ops) rl (c7 (ub ops) rl.length)=true then some (.draw (c7 (ub ops) rl.length) rl)
   else some (.any (qP (ub ops) rl.length (c7 (ub ops) rl.length)) (c7 (ub ops) rl.length) (ub ops) rl)
  |none=>none
 |.seq a b=>
  match Ez E P a,Ez E P b with
  |some x,some y=>some (.seq x y)
  |_,_=>none
 |.cond c a b=>
  match Ez E P a,Ez E P b with
  |some x,some y=>some (.cond c x y)
  |_,_=>none
 |.block id a=>(Ez E P a).map (.block id)
 |.loop a=>(Ez E P a).map .loop
 |.exit id=>some (.exit id)
 |.ret=>some .ret
 |.label _=>some .skip
 |.rangeFunc ..=>some .stuck
 |_=>none
def compFU(E:List (Nat×List Nat)) (P:Program) (f:FuncId):Option Fun:=
 match P.funcs[f]? with
 |some fn=>
  match fn.body,sw P fn.results.toList with
  |some b,some r=>(Ez E P b).map λc=>⟨fn.ntmps,r,c⟩
  |_,_=>none
 |none=>none
theorem u8l{n:Nat}{h:n<2 ^ 8}:(⟨⟨⟨n,h⟩⟩⟩:UInt8)=UInt8.ofNat n:=by
 apply UInt8.toBitVec_inj.1;simp only[BitVec.ofFin_eq_ofNat];rfl
theorem arl{l:List UInt8}:(⟨l⟩:Array UInt8)=l.toArray:=rfl
structure Kf (P:Program) (n:Nat) where
 F:Fun
 ok:Hv P n=some F
 nm:((P.funcs[n]?).map λfn=>fn.name == "runtime.NumGoroutine")=some false
variable {n:Nat}
theorem Kf.o{P:Program}(K:Kf P n):Hv P n=some K.F/\((P.funcs[n]?).map λfn=>fn.name == "runtime.NumGoroutine")=some false:=⟨K.ok,K.nm⟩
abbrev Kf.of(E:List (Nat×List Nat)) {P:Program}{n:Nat}{F:Fun}(_:compFU E P n=some F:=by conv=>lhs;reduce;try simp only[Int.reduceOfNat,Int.reduceNegSucc,u8l,arl,UInt8.reduceOfNat]) (ok:Hv P n=some F:=by kernel_rfl) (nm:((P.funcs[n]?).map λfn=>fn.name == "runtime.NumGoroutine")=some false:=by kernel_rfl):Kf P n:=⟨F,ok,nm⟩
theorem ss:type_of% @T.Dk:=@T.Dk
theorem rg:type_of% @T.rg:=@T.rg
theorem sr:type_of% @T.sr:=@T.sr
theorem cd:type_of% @T.cd:=@T.cd
theorem bk:type_of% @T.bk:=@T.bk
theorem sk:type_of% @T.skip:=@T.skip
theorem xt:type_of% @T.exit:=@T.exit
theorem ay:type_of% @T.ay:=@T.ay
theorem dy:type_of% @T.dy:=@T.dy
theorem ao:type_of% @T.ao:=@T.ao
theorem tl:type_of% @T.pH:=@T.pH
theorem cq:type_of% @vE:=@vE
theorem lq:type_of% @SJ:=@SJ
theorem bs:type_of% @Ni:=@Ni
theorem lc:type_of% @T.F0:=@T.F0
theorem tj:type_of% @T.join:=@T.join
theorem lv:type_of% @qF:=@qF
theorem cv:type_of% @tF:=@tF
section
variable {P:Program} {N:Nat}
theorem jn{a b:C}{s:St} [StbC N K] (S:X->St) {o:Option X}{f:X->Option β}{r:β}(h:o.bind f=some r) (ha:∀z,o=some z->Tm.T P N a (KJ N K S (.inl z:X⊕Unit)) s) (hb:∀z,o=some z->f z=some r->Tm.T P N b K (S z)):Tm.T P N (.seq a b) K s:=by
 obtain⟨z,c,h2⟩:=Ni h;refine T.join (R:=Unit) S (.inl z) (ha z c) ?_;rintro _ ⟨⟩;exact hb z c h2
theorem gi{q N:Prop} [Decidable q] {α:Type}{A B:Option α}{r:α}(h:(if q then A else B)=some r) (b:q->A=some r->Y) (h2:¬q->B=some r->N) (a:p=q:=by rfl):gP p Y N:=gP.ite h (iff_of_eq a) b h2
theorem rt:type_of% @T.ret:=@T.ret
theorem er:type_of% @yp:=@yp
end
theorem eT{α:Type} [BEq α] [LawfulBEq α] {a b:α}(h:a=b):(a==b)=true:=beq_iff_eq.2 h
theorem eF{α:Type} [BEq α] [LawfulBEq α] {a b:α}(h:¬a=b):(a==b)=false:=beq_eq_false_iff_ne.2 h
theorem eD{α:Type} [BEq α] [LawfulBEq α] {a b:α}(h:¬ ¬a=b):(a==b)=true:=beq_iff_eq.2 (saa.1 h)
theorem nT{α:Type} [BEq α] [LawfulBEq α] {a b:α}(h:¬a=b):(a !=b)=true:=bne_iff_ne.2 h
theorem nF{α:Type} [BEq α] [LawfulBEq α] {a b:α}(h:a=b):(a !=b)=false:=by simpa using h
theorem nD{α:Type} [BEq α] [LawfulBEq α] {a b:α}(h:¬ ¬a=b):(a !=b)=false:=nF (saa.1 h)
theorem bI{α:Type}{l:List α}{i:Int}{g:α->Option β}{r:β}(h:(idx l i).bind g=some r):∃x,0<=i/\l[i.toNat]?=some x/\g x=some r:=by
 obtain⟨x,a,h2⟩:=Ni h;obtain⟨b,c⟩:=idx_f a;exact⟨x,b,c,h2⟩
theorem bO{α:Type}{l:List α}{i:Int}{g:α->Option β}{r:β}(h:(idx l i).bind g=some r):∃x,0<=i/\l[i.toNat]?=some x/\i.toNat<l.length/\g x=some r:=by
 obtain⟨x,a,h2⟩:=Ni h;obtain⟨b,c,d⟩:=idx_o a;exact⟨x,b,c,d,h2⟩
section
variable {P:Program} {N:Nat}
theorem jm{a b:C}{s:St} [StbC N K] {o:Option X}{f:X->Option β}{r:β}(h:o.bind f=some r) (S:X->St) (ha:∀z,o=some z->Tm.T P N a (KJ N K S (.inl z:X⊕Unit)) s) (hb:∀z,o=some z->f z=some r->Tm.T P N b K (S z)):Tm.T P N (.seq a b) K s:=jn S h ha hb
theorem lm{ρ:Type}[hst:StbC N K] {x:C}{s:St}{step:σ->Option (Ex σ β ρ)}{x0:σ}{y:β⊕ρ}(d:Tm.ea step x0=some y) (S:σ->St) (B:β->St) (c:Tells N s (S x0))
 (round:∀a z,step a=some z->(∀v,z=.ret v->y=.inr v)->Tm.T P N x (KL N id K S B z) (S a))
 (rest:∀b,y=.inl b->K .normal (B b)):Tm.T P N (.block id (.loop x)) K s:=T.F0 S B step x0 d c round rest
end
abbrev ok(i:Nat):Option Nat×Nat×Nat:=(some i,0,0)
abbrev ov(i v:Nat):Option Nat×Nat×Nat:=(some i,v,0)
abbrev on(S:Nat):Option Nat×Nat×Nat:=(none,S,0)
theorem tq{N:Nat}(ρ:Mp) {s:St}(h:Nz (Sq ρ s.m 9) s.t S.t/\cC ρ s.m ρ S.m) (hk:Ww ρ N=true:=by rfl) (a:(ρ.filterMap (·.1)).Nodup:=by decide):Tells N s S:=Tells.q ρ hk a h
theorem fq:type_of% @AD:=@AD
theorem zr:type_of% (And.intro (And.intro @Un @Sf) (And.intro @Tf @Yd)):=And.intro (And.intro @Un @Sf) (And.intro @Tf @Yd)
class FrL (l:List D):Prop where
 h:fa l=true
instance:FrL []:=⟨rfl⟩
instance {α:Type}{e:α->D} [Fr e] {x:α}{l:List D} [FrL l]:FrL (e x::l):=⟨bE FrL.h⟩
theorem dk{P:Program}{l:List D}{o:D}(n:Nat) (K:Kf P k) (h:T P 0 K.F.code (Bv K.F.results o) ⟨l++Tm.ds n [],[]⟩) (hf:fa l=true:=by exact FrL.h) (hn:K.F.ntmps=l.length+n:=by rfl):Den P k l o:=Den.at n K.ok K.nm hf hn h
end Go.Tm
