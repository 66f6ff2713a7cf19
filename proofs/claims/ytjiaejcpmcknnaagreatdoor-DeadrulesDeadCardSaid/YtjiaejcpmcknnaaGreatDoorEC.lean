/-
  The engine: a part of the proof that trees of values are carried along by the program: no condition.
-/
import Derived.Test.YtjiaejcpmcknnaaGreatDoorEB
import Derived.ProofKit
import Derived.OpenShut
import Derived.WideShapes
import Derived.Lib.LaidTab
import Derived.SizedLaws
import Derived.Sort.Row
import Derived.Sort.Grow
import Derived.KernelRfl
open Bool renaming and_eq_true->paa,and_true->taa,true_and->Zaa
open Classical renaming not_not->xaa
open Eq renaming trans->gaa
open List renaming all_cons->Xab,all_eq_true->Uaa,append_nil->Kaa,cons_append->Naa,contains_iff_mem->gac,drop_drop->Mac,drop_zero->tac,eq_nil_of_length_eq_zero->Caa,ext_getElem?->Iab,foldlM->Vad,getD_cons_succ->Yab,getD_cons_zero->lad,getElem?_cons_succ->lab,getElem?_cons_zero->Waa,getElem?_eq_getElem->faa,getElem?_eq_some_iff->Haa,getElem_mem->laa,length_cons->Jaa,length_map->Dab,length_nil->bab,map_congr_left->Hac,map_cons->Maa,map_id->Gad,map_nil->Wab,mem_append->tab,mem_cons->oab,mem_map_of_mem->mad,nil_append->cab,replicate->jaa,replicate_succ->iab,replicate_zero->Iac,take_length->Nab,take_of_length_le->Xac
open Nat renaming add_sub_cancel_left->aac,le_refl->saa,lt_or_ge->zab,lt_succ_self->Wac,not_lt_zero->Nad,sub_zero->uac,zero_add->jab,zero_le->wab,zero_lt_succ->Cad
open Option renaming bind_eq_some_iff->xab,map_eq_some_iff->haa,map_some->Lab
open Option.some renaming inj->Iaa,injEq->Laa
open Prod renaming fst->uad
open Prod.mk renaming injEq->Baa
set_option linter.all false
namespace Go.Tm
inductive W where
 |c (c:C)
 |l (l:List RI)
 |an (q:Nat) (bs:List (List Nat)) (l:List RI)
 |yo (pl:List (Option Nat)) (ps fp:List (List Nat)) (q:Nat) (l:List RI)
 |f (k:Nat) (ds:List D)
 |p (k:Nat) (ds:List D)
 |q (k:Nat) (ds:List D)
 |w (p k:Nat) (ds:List D)
section
variable {P:Program} {FT:Nat->Option (Fun×Nat)} {O:Nat->List D->Option D}
end
variable {α:Type}
noncomputable section
def HD(k:IntKind):Int:=
 match k with
 |.i8=>256|.i16=>65536|.i32=>4294967296|.i64=>18446744073709551616
 |.u8=>256|.u16=>65536|.u32=>4294967296|.u64=>18446744073709551616
theorem qL(k:IntKind):HD k=2 ^ k.bits:=by cases k<;>rfl
def fG(n h m:Int):Int:=bif decide (n % m>=h)then n % m-m else n % m
def da(k:IntKind) (n:Int):Int:=
 match k with
 |.i8=>fG n 128 256
 |.i16=>fG n 32768 65536
 |.i32=>fG n 2147483648 4294967296
 |.i64=>fG n 9223372036854775808 18446744073709551616
 |.u8=>n % 256
 |.u16=>n % 65536
 |.u32=>n % 4294967296
 |.u64=>n % 18446744073709551616
theorem Du(k:IntKind) (n:Int):da k n=k.wrap n:=by
 cases k<;>simp[da,fG,IntKind.wrap,IntKind.bits,IntKind.signed,cond_eq_ite]
def JB(op:Nat->Nat->Nat) (k:IntKind) (x y:Int):Value:=.int k (da k (op (x % HD k).toNat (y % HD k).toNat:Nat))
theorem YM(k:IntKind) (x:Int):(BitVec.ofInt k.bits x).toNat=(x % HD k).toNat:=by
 rw[BitVec.toNat_ofInt,qL];norm_cast
def ag(op:BinOp) (j:IntKind) (a:Int) (k:IntKind) (b:Int):Option Value:=
 match op with
 |.add=>bif decide (j=k)then some (.int j (da j (a+b)))else none
 |.sub=>bif decide (j=k)then some (.int j (da j (a-b)))else none
 |.mul=>bif decide (j=k)then some (.int j (da j (a*b)))else none
 |.eql=>bif decide (j=k)then some (.bool (a==b))else none
 |.neq=>bif decide (j=k)then some (.bool (a !=b))else none
 |.lss=>bif decide (j=k)then some (.bool (decide (a<b)))else none
 |.leq=>bif decide (j=k)then some (.bool (decide (a<=b)))else none
 |.gtr=>bif decide (j=k)then some (.bool (decide (b<a)))else none
 |.geq=>bif decide (j=k)then some (.bool (decide (b<=a)))else none
 |.and=>bif decide (j=k)then some (JB Nat.land j a b)else none
 |.or=>bif decide (j=k)then some (JB Nat.lor j a b)else none
 |.xor=>bif decide (j=k)then some (JB Nat.xor j a b)else none
 |.quo=>bif decide (j=k)&&!decide (b=0)then some (.int j (da j (a.tdiv b)))else none
 |.rem=>bif decide (j=k)&&!decide (b=0)then some (.int j (a.tmod b))else none
 |.shl=>bif decide (b<0)then none else some (.int j (da j (a*((2 ^ (min b.toNat j.bits):Nat):Int))))
 |.shr=>bif decide (b<0)then none else some (.int j (a.fdiv ((2 ^ (min b.toNat j.bits):Nat):Int)))
 |op=>kf (binOp op 0 (.int j a) (.int k b))
theorem lS(op:BinOp) (j:IntKind) (a:Int) (k:IntKind) (b:Int):ag op j a k b=kf (binOp op 0 (.int j a) (.int k b)):=by
 have hst:∀{α:Type} (x:String),kf (stuck x:Sem α)=none:=λ_=>rfl;have hp:∀{α:Type} (x:α),kf (pure x:Sem α)=some x:=λ_=>rfl;have hrt:∀{α:Type} x,kf (runtimePanic x:Sem α)=none:=λ_=>rfl;cases op
 case shl=>
  simp only[ag,binOp,Op.shift,cond_eq_ite,decide_eq_true_eq];split<;>simp[hst,hp,hrt,Du]
 case shr=>
  simp only[ag,binOp,Op.shift,cond_eq_ite,decide_eq_true_eq];split<;>simp[hst,hp,hrt]
 all_goals
  by_cases hjk:j=k
  .subst hjk;simp[ag,binOp,Op.intArith,Op.intCmp,Op.intBits,Op.intDiv,hst,hp,hrt,Du,JB,YM,qL];(try rfl);(try (split<;>simp[hst,hp,hrt,Du, *]))
  .simp[ag,binOp,hjk,hst]
section
variable {FT:Nat->Option (Fun×Nat)} {O:Nat->List D->Option D}
variable {P:Program}
end
end
variable {P:Program} {N:Nat}
def Ct(r:Option (D×List Ent)) (f:D->List Ent->Prop):Prop:=
 match r with
 |some p=>f p.1 p.2
 |none=>False
@[congr] theorem dX{r r':Option (D×List Ent)} {f:D->List Ent->Prop} (h:r=r'):Ct r f=Ct r' f:=by rw[h]
theorem SL(d:D) (m:List Ent) (f:D->List Ent->Prop):Ct (some (d,m)) f=f d m:=gaa rfl rfl
theorem Qp(r:Option (D×List Ent)) (f:D->List Ent->Prop):Ct r f↔∃d m',r=some (d,m')/\f d m':=by
 cases r with
 |none=>simp[Ct]
 |some p=>
  obtain⟨d,m⟩:=p;simp only[Ct];exact⟨λh=>⟨d,m,rfl,h⟩,λ⟨_,_,h1,h2⟩=>by injection h1 with h1;injection h1 with h1 h3;rw[h1,h3];exact h2⟩
def vf(P:Program) (k:Nat) (ds:List D) (m:List Ent) (f:D->List Ent->Prop):Prop:=CallT P k ds m f
@[congr] theorem fW{k k':Nat} {ds ds':List D} {m m':List Ent} {f:D->List Ent->Prop} (h1:k=k') (h2:ds=ds') (h3:m=m'):vf P k ds m f=vf P k' ds' m' f:=by rw[h1,h2,h3]
theorem oO{k:Nat}{ds:List D}{m:List Ent}{R f:D->List Ent->Prop}(h:CallT P k ds m R) (hR:∀d m',R d m'->f d m'):vf P k ds m f:=h.mono hR
theorem Cj{k:Nat}{ds:List D}{m m1:List Ent}{d1:D}{f:D->List Ent->Prop}(h:CallT P k ds m λd m'=>d=d1/\m'=m1) (hf:f d1 m1):vf P k ds m f:=
 h.mono λd m' ⟨h1,h2⟩=>by rw[h1,h2];exact hf
theorem Ka.cons{d e:D}{l r:List D}(h1:Sub d e) (h2:Ka l r):Ka (d::l) (e::r):=by
 simp only[Ka];exact⟨e,r,rfl,h1,h2⟩
theorem Sub.Nf(d:D):Sub d .dead:=by cases d<;>simp[Sub]
variable {P:Program} {N:Nat}
def gP(p Y N:Prop):Prop:=(p->Y)/\(¬p->N)
theorem n3{Y N:Prop}:gP True Y N=Y:=by simp[gP]
theorem Z2{Y N:Prop}:gP False Y N=N:=by simp[gP]
@[congr] theorem w3{p p' Y N:Prop} (h:p=p'):gP p Y N=gP p' Y N:=by rw[h]
theorem gP.mk{p Y N:Prop}(h1:p->Y) (h2:¬p->N):gP p Y N:=⟨h1,h2⟩
def Fv(s:St) (g:Option (Tmp×Bool)) (b:Bool):St:=
 match g with
 |none=>s
 |some (t,_)=>
  match s.t.getD t .dead with
  |.v (.bool _)=>{ s with t:=s.t.set t (.v (.bool b)) }
  |_=>s
theorem Vz{l:List D}{t:Nat}{d:D}(h:l.getD t .dead=d) (hd:d≠.dead):l.set t d=l:=by
 apply Iab
 grind
theorem wL{s:St}{g:Option (Tmp×Bool)}{c b:Bool}(hg:gate s g=some (some (c,b))) (e:c=b):Fv s g b=s:=by
 unfold Fv
 cases g with
 |none=>rfl
 |some p=>
  obtain⟨t,b'⟩:=p;simp only;split
  all_goals simp_all[gate,Vz]
theorem mQ{s:St}{g:Option (Tmp×Bool)}{c b:Bool}(hg:gate s g=some (some (c,b))) (e:c≠b):Fv s g (!b)=s:=by
 unfold Fv
 cases g with
 |none=>rfl
 |some p=>
  obtain⟨t,b'⟩:=p;simp only;split
  .rename_i x hx;simp only[gate,hx]at hg;injection hg with hg;injection hg with hg;injection hg with h1 h2;subst h1 h2;have:x = !b':=by cases x<;>cases b'<;>simp_all
   simp_all[Vz]
  .rfl
def KO(R:St->Prop) (s:St) (dst:Option Tmp) (d:D) (m':List Ent):Prop:=R ({ s with m:=m' }.put dst d)
def Ug(P:Program):List RI->(St->Prop)->St->Prop
 |[],K,s=>K s
 |.op dst g i::l,K,s=>
  match gate s g with
  |none=>False
  |some none=>Ct (ia s i) (KO (Ug P l K) s dst)
  |some (some (c,b))=>gP (c=b) (Ct (ia (Fv s g b) i) (KO (Ug P l K) (Fv s g b) dst)) (Ug P l K ((Fv s g (!b)).put dst (.v undef)))
 |.call dst g f args::l,K,s=>
  match s.ec f with
  |.fn k first caps=>
   match gate s g with
   |none=>False
   |some none=>vf P k (first++args.map s.ev++caps) s.m (KO (Ug P l K) s dst)
   |some (some (c,b))=>gP (c=b) (vf P k (first++args.map (Fv s g b).ev++caps) s.m (KO (Ug P l K) (Fv s g b) dst)) (Ug P l K ((Fv s g (!b)).put dst (.v undef)))
  |_=>False
theorem Wr:∀{l:List RI}{K:St->Prop}{s:St},Ug P l K s->fj P l K s
 |[],K,s,h=>h
 |.op dst g i::l,K,s,h=>by
  simp only[Ug]at h;simp only[fj];split at h
  .simp_all
  .rename_i hg;rw[hg];obtain⟨d,m',h1,h2⟩:=(Qp _ _).1 h;exact⟨d,m',h1,Wr h2⟩
  .rename_i c b hg;rw[hg];refine⟨λe=>?_,λe=>?_⟩
   .have h:=h.1 e;rw[wL hg e]at h;obtain⟨d,m',h1,h2⟩:=(Qp _ _).1 h;exact⟨d,m',h1,Wr h2⟩
   .have h:=h.2 e;rw[mQ hg e]at h;exact Wr h
 |.call dst g f args::l,K,s,h=>by
  simp only[Ug]at h;simp only[fj];split at h
  .rename_i k first caps hf
   rw[hf];split at h
   .simp_all
   .rename_i hg;rw[hg];exact h.mono λ_ _ h2=>Wr h2
   .rename_i c b hg;rw[hg];refine⟨λe=>?_,λe=>?_⟩
    .have h:=h.1 e;rw[wL hg e]at h;exact h.mono λ_ _ h2=>Wr h2
    .have h:=h.2 e;rw[mQ hg e]at h;exact Wr h
  simp_all
def Eu(P:Program):Nat->List RI->(St->Prop)->St->Prop
 |0,l,K,s=>Ug P l K s
 |_+1,[],_,_=>False
 |q+1,.op dst g i::l,K,s=>
  match gate s g with
  |none=>False
  |some none=>Ct (ia s i) (KO (Eu P q l K) s dst)
  |some (some (c,b))=>gP (c=b) (Ct (ia s i) (KO (Eu P q l K) s dst)) (Eu P q l K (s.put dst (.v undef)))
 |q+1,.call dst g f args::l,K,s=>
  match s.cv f with
  |.fn k first caps=>
   match gate s g with
   |none=>False
   |some none=>∃d,(∀m,CallT P k (first++args.map s.ev++caps) m λd' m'=>d'=d/\m'=m)/\Eu P q l K (s.put dst d)
   |some (some (c,b))=>(c=b->∃d,(∀m,CallT P k (first++args.map s.ev++caps) m λd' m'=>d'=d/\m'=m)/\Eu P q l K (s.put dst d))/\(c≠b->Eu P q l K (s.put dst (.v undef)))
  |_=>False
theorem NC:∀{q:Nat}{l:List RI}{K:St->Prop}{s:St},Eu P q l K s->yH P q l K s
 |0,l,K,s,h=>by simp only[Eu]at h;simp only[yH];exact Wr h
 |_+1,[],K,s,h=>by simp only[Eu]at h
 |q+1,.op dst g i::l,K,s,h=>by
  simp only[Eu]at h;simp only[yH];split at h
  .simp_all
  .rename_i hg;rw[hg];obtain⟨d,m',h1,h2⟩:=(Qp _ _).1 h;exact⟨d,m',h1,NC h2⟩
  .rename_i c b hg;rw[hg];refine⟨λe=>?_,λe=>NC (h.2 e)⟩;obtain⟨d,m',h1,h2⟩:=(Qp _ _).1 (h.1 e);exact⟨d,m',h1,NC h2⟩
 |q+1,.call dst g f args::l,K,s,h=>by
  simp only[Eu]at h;simp only[yH];split at h
  .rename_i k first caps hf
   rw[hf];split at h
   .simp_all
   .rename_i hg;rw[hg];obtain⟨d,h1,h2⟩:=h;exact⟨d,h1,NC h2⟩
   .rename_i c b hg;rw[hg];refine⟨λe=>?_,λe=>NC (h.2 e)⟩;obtain⟨d,h1,h2⟩:=h.1 e;exact⟨d,h1,NC h2⟩
  simp_all
def C.pC:C->Bool
 |.loop _=>true
 |.any ..=>true
 |.seq a b=>a.pC || b.pC
 |.cond _ a b=>a.pC || b.pC
 |.block _ a=>a.pC
 |_=>false
def C.pj:C->Bool
 |.loop _=>true
 |_=>false
theorem dM{f:FuncId}{ds ds':List D}{m:List Ent}{R:D->List Ent->Prop}(hs:Ka ds ds') (h:CallT P f ds' m R):CallT P f ds m R:=
 ⟨h.1,λG w vs hv hi=>h.2 G w vs (hs.rel hv) hi⟩
def KS(P:Program) (N:Nat) (b:C) (K:Exit->St->Prop) (e:Exit) (s':St):Prop:=match e with|.normal=>Tm.T P N b K s'|e=>K e s'
theorem QL{b:C}{K:Exit->St->Prop}{s:St}:KS P N b K .normal s=Tm.T P N b K s:=gaa rfl rfl
theorem cS{b:C}{K:Exit->St->Prop}{s:St}{i:Nat}:KS P N b K (.exit i) s=K (.exit i) s:=gaa rfl rfl
theorem SW{b:C}{K:Exit->St->Prop}{s:St}:KS P N b K .ret s=K .ret s:=gaa rfl rfl
def KZ(R:St->Prop) (K:Exit->St->Prop) (e:Exit) (s':St):Prop:=match e with|.normal=>R s'|e=>K e s'
def KB(id:Nat) (K:Exit->St->Prop) (e:Exit) (s':St):Prop:=match e with|.exit id'=>if id'=id then K .normal s' else K (.exit id') s'|e=>K e s'
theorem PL{id:Nat}{K:Exit->St->Prop}{s:St}:KB id K .normal s=K .normal s:=gaa rfl rfl
theorem YR{id:Nat}{K:Exit->St->Prop}{s:St}{i:Nat}:KB id K (.exit i) s=if i=id then K .normal s else K (.exit i) s:=gaa rfl rfl
theorem NW{id:Nat}{K:Exit->St->Prop}{s:St}:KB id K .ret s=K .ret s:=gaa rfl rfl
@[congr] theorem T_congr{c:C} {K:Exit->St->Prop} {s s':St} (h:s=s'):Tm.T P N c K s=Tm.T P N c K s':=by rw[h]
def Z(P:Program) (N:Nat):C->(Exit->St->Prop)->St->Prop
 |.skip,K,s=>K .normal s
 |.mJ l,K,s=>Ug P l (K .normal) s
 |.draw q l,K,s=>Eu P q l (K .normal) s
 |.any cuts q bs l,K,s=>T P N (.any cuts q bs l) K s
 |.seq a b,K,s=>
  match a.pC with
  |true=>Z P N a (KS P N b K) s
  |false=>Z P N a (KZ (Z P N b K) K) s
 |.cond c a b,K,s=>
  match s.ev c with
  |.v (.bool t)=>gP (t=true) (Z P N a K s) (Z P N b K s)
  |_=>False
 |.block id a,K,s=>
  match a.pj with
  |true=>T P N (.block id a) K s
  |false=>Z P N a (KB id K) s
 |.loop a,K,s=>T P N (.loop a) K s
 |.exit id,K,s=>K (.exit id) s
 |.ret,K,s=>K .ret s
 |.stuck,_,_=>False
theorem Z.T(hm:P.follows .mixedOrders=true):∀{c:C}{K:Exit->St->Prop}{s:St},Z P N c K s->T P N c K s
 |.skip,K,s,h=>T.skip h
 |.mJ l,K,s,h=>T.mJ (Wr h)
 |.draw q l,K,s,h=>T.draw hm (NC h)
 |.any cuts q bs l,K,s,h=>h
 |.seq a b,K,s,h=>by
  simp only[Z]at h;split at h
  .refine T.seq ((Z.T hm h).mono ?_);intro e s' h';cases e<;>exact h'
  .refine T.seq ((Z.T hm h).mono ?_);intro e s' h'
   cases e with
   |normal=>exact Z.T hm h'
   |_=>exact h'
 |.cond c a b,K,s,h=>by
  simp only[Z]at h;split at h
  .rename_i t ht;exact T.cond ht (λe=>Z.T hm (h.1 e)) (λe=>Z.T hm (h.2 (by simp[e])))
  .exact h.elim
 |.block id a,K,s,h=>by
  simp only[Z]at h;split at h
  .exact h
  .exact T.block ((Z.T hm h).mono λe s' h'=>by cases e<;>exact h')
 |.loop a,K,s,h=>h
 |.exit id,K,s,h=>T.exit h
 |.ret,K,s,h=>T.ret h
 |.stuck,_,_,h=>by simp only[Z]at h
section
variable {l:List RI} {K:St->Prop} {s:St} {dst:Option Tmp} {i:I} {q:Nat} {f:Cal} {args:List Operand} {g:Tmp×Bool}
theorem RN:Ug P [] K s=K s:=gaa rfl rfl
theorem NK:Ug P (.op dst none i::l) K s=Ct (ia s i) (KO (Ug P l K) s dst):=gaa rfl rfl
theorem TN:Ug P (.op dst (some g) i::l) K s =
 match gate s (some g)with
 |none=>False
 |some none=>Ct (ia s i) (KO (Ug P l K) s dst)
 |some (some (c,b))=>gP (c=b) (Ct (ia (Fv s (some g) b) i) (KO (Ug P l K) (Fv s (some g) b) dst)) (Ug P l K ((Fv s (some g) (!b)).put dst (.v undef))):=gaa rfl rfl
theorem RL{k:FuncId}{first caps:List D}(hf:s.ec f=.fn k first caps):Ug P (.call dst none f args::l) K s=vf P k (first++args.map s.ev++caps) s.m (KO (Ug P l K) s dst):=by
 simp only[Ug,hf,gate]
theorem yC{k:FuncId}:Ug P (.call dst none (.func k) args::l) K s=vf P k (args.map s.ev) s.m (KO (Ug P l K) s dst):=by
 rw[RL (k:=k) (first:=[]) (caps:=[]) rfl,cab,Kaa]
theorem BH{k:FuncId}:Ug P (.call dst (some g) (.func k) args::l) K s =
 match gate s (some g)with
 |none=>False
 |some none=>vf P k (args.map s.ev) s.m (KO (Ug P l K) s dst)
 |some (some (c,b))=>gP (c=b) (vf P k (args.map (Fv s (some g) b).ev) s.m (KO (Ug P l K) (Fv s (some g) b) dst)) (Ug P l K ((Fv s (some g) (!b)).put dst (.v undef))):=by
 simp only[Ug,St.ec,St.ev,cab,Kaa]
theorem ON:Eu P 0 l K s=Ug P l K s:=by simp only[Eu]
theorem NN:Eu P (q+1) (.op dst none i::l) K s=Ct (ia s i) (KO (Eu P q l K) s dst):=gaa rfl rfl
theorem WR:Eu P (q+1) (.op dst (some g) i::l) K s =
 match gate s (some g)with
 |none=>False
 |some none=>Ct (ia s i) (KO (Eu P q l K) s dst)
 |some (some (c,b))=>gP (c=b) (Ct (ia s i) (KO (Eu P q l K) s dst)) (Eu P q l K (s.put dst (.v undef))):=gaa rfl rfl
def yF(P:Program) (k:FuncId) (ds:List D) (R:St->Prop) (s:St) (dst:Option Tmp):Prop:=∃d,(∀m,CallT P k ds m λd' m'=>d'=d/\m'=m)/\R (s.put dst d)
theorem kF{k:FuncId}:Eu P (q+1) (.call dst none (.func k) args::l) K s=yF P k (args.map s.ev) (Eu P q l K) s dst:=by
 simp only[Eu,St.cv,St.ev,cab,Kaa,yF,gate]
theorem nJ{k:FuncId}:Eu P (q+1) (.call dst (some g) (.func k) args::l) K s =
 match gate s (some g)with
 |none=>False
 |some none=>yF P k (args.map s.ev) (Eu P q l K) s dst
 |some (some (c,b))=>gP (c=b) (yF P k (args.map s.ev) (Eu P q l K) s dst) (Eu P q l K (s.put dst (.v undef))):=by
 simp only[Eu,St.cv,St.ev,cab,Kaa,yF,gP]
variable {K':Exit->St->Prop} {a b:C} {c:Operand} {id:Nat} {cuts:List Nat} {bs:List (List Nat)}
theorem Sk:Z P N .skip K' s=K' .normal s:=gaa rfl rfl
theorem Mp:Z P N (.mJ l) K' s=Ug P l (K' .normal) s:=gaa rfl rfl
theorem Pk:Z P N (.draw q l) K' s=Eu P q l (K' .normal) s:=gaa rfl rfl
theorem Lp:Z P N (.any cuts q bs l) K' s=Tm.T P N (.any cuts q bs l) K' s:=gaa rfl rfl
def KZb(P:Program) (N:Nat) (b:C) (K':Exit->St->Prop):Exit->St->Prop:=KZ (Z P N b K') K'
theorem xc:KZb P N b K' .normal s=Z P N b K' s:=gaa rfl rfl
theorem Ge:KZb P N b K' (.exit id) s=K' (.exit id) s:=gaa rfl rfl
theorem gh:KZb P N b K' .ret s=K' .ret s:=gaa rfl rfl
theorem Pp:Z P N (.seq a b) K' s=match a.pC with
 |true=>Z P N a (KS P N b K') s
 |false=>Z P N a (KZb P N b K') s:=gaa rfl rfl
theorem Nk:Z P N (.cond c a b) K' s=match s.ev c with
 |.v (.bool t)=>gP (t=true) (Z P N a K' s) (Z P N b K' s)
 |_=>False:=gaa rfl rfl
theorem kh:Z P N (.block id a) K' s=match a.pj with
 |true=>Tm.T P N (.block id a) K' s
 |false=>Z P N a (KB id K') s:=gaa rfl rfl
theorem Rk:Z P N (.loop a) K' s=Tm.T P N (.loop a) K' s:=gaa rfl rfl
theorem Qk:Z P N (.exit id) K' s=K' (.exit id) s:=gaa rfl rfl
theorem Np:Z P N .ret K' s=K' .ret s:=gaa rfl rfl
end
def At(s' S:St):Prop:=Ka s'.t S.t/\∃g,s'.m=S.m++g
theorem At.mk(t t':List D) (m g:List Ent) (h:Ka t t'):At ⟨t,m++g⟩ ⟨t',m⟩:=⟨h,g,rfl⟩
theorem At.same(t t':List D) (m:List Ent) (h:Ka t t'):At ⟨t,m⟩ ⟨t',m⟩:=⟨h,[],by simp⟩
def Fit(N:Nat) (s:St):Prop:=N<=s.m.length/\belows s.m.length s.t=true/\s.m.all (Ent.below s.m.length)=true
theorem Sub.inv{a b:D}(h:Sub a b):b=.dead\/(∃S,a=.v (.slice none 0 0)/\b=.sl S [])\/(∃l r,a=.agg l/\b=.agg r/\Ka l r)\/(∃l r,a=.tup l/\b=.tup r/\Ka l r)\/(∃S l r,a=.sl S l/\b=.sl S r/\Ka l r)\/a=b:=by
 cases b with
 |dead=>simp
 |v x=>cases a<;>simp_all[Sub]
 |agg r=>cases a<;>simp_all[Sub]
 |tup r=>cases a<;>simp_all[Sub]
 |sl S r=>
  cases a with
  |sl S' l=>simp only[Sub]at h;grind
  |_=>simp_all[Sub]
 |pt x=>cases a<;>simp_all[Sub]
 |ref _ _ _ _=>cases a<;>simp_all[Sub]
 |own _ _=>cases a<;>simp_all[Sub]
 |view _ _ _ _=>cases a<;>simp_all[Sub]
 |fn _ _ _=>cases a<;>simp_all[Sub]
 |mp _=>cases a<;>simp_all[Sub]
 |ifc _ _=>cases a<;>simp_all[Sub]
mutual
theorem Sub.trans:∀{a b c:D},Sub a b->Sub b c->Sub a c
 |a,.dead,c,h1,h2=>by
  rcases h2.inv with rfl|⟨_,h,_⟩|⟨_,_,h,_⟩|⟨_,_,h,_⟩|⟨_,_,_,h,_⟩|rfl
  .exact Sub.Nf _
  .cases h
  .cases h
  .cases h
  .cases h
  .exact Sub.Nf _
 |a,.agg r,c,h1,h2=>by
  rcases h1.inv with h|⟨_,_,h⟩|⟨l,r',rfl,h,hs⟩|⟨_,_,_,h,_⟩|⟨_,_,_,_,h,_⟩|rfl
  .cases h
  .cases h
  .injection h with h;subst h;rcases h2.inv with rfl|⟨_,h,_⟩|⟨r',q,h,rfl,hs'⟩|⟨_,_,h,_⟩|⟨_,_,_,h,_⟩|rfl
   .exact Sub.Nf _
   .cases h
   .injection h with h;subst h;simp only[Sub];exact Ka.trans hs hs'
   .cases h
   .cases h
   .exact h1
  .cases h
  .cases h
  .exact h2
 |a,.tup r,c,h1,h2=>by
  rcases h1.inv with h|⟨_,_,h⟩|⟨_,_,_,h,_⟩|⟨l,r',rfl,h,hs⟩|⟨_,_,_,_,h,_⟩|rfl
  .cases h
  .cases h
  .cases h
  .injection h with h;subst h;rcases h2.inv with rfl|⟨_,h,_⟩|⟨_,_,h,_⟩|⟨r',q,h,rfl,hs'⟩|⟨_,_,_,h,_⟩|rfl
   .exact Sub.Nf _
   .cases h
   .cases h
   .injection h with h;subst h;simp only[Sub];exact Ka.trans hs hs'
   .cases h
   .exact h1
  .cases h
  .exact h2
 |a,.sl S r,c,h1,h2=>by
  rcases h2.inv with rfl|⟨_,h,_⟩|⟨_,_,h,_⟩|⟨_,_,h,_⟩|⟨S',l',q,h,rfl,hs'⟩|rfl
  .exact Sub.Nf _
  .cases h
  .cases h
  .cases h
  .injection h with h3 h4;subst h3;subst h4;rcases h1.inv with h|⟨_,rfl,h⟩|⟨_,_,_,h,_⟩|⟨_,_,_,h,_⟩|⟨_,l,_,rfl,h,hs⟩|rfl
   .cases h
   .injection h with h3 h4;subst h4;simp only[Ka]at hs';subst hs';simp[Sub]
   .cases h
   .cases h
   .injection h with h3 h4;subst h3;subst h4;simp only[Sub,true_and];exact Ka.trans hs hs'
   .exact h2
  .exact h1
 |a,.v x,c,h1,h2=>by
  rcases h1.inv with h|⟨_,_,h⟩|⟨_,_,_,h,_⟩|⟨_,_,_,h,_⟩|⟨_,_,_,_,h,_⟩|rfl<;>first|cases h|exact h2
 |a,.pt x,c,h1,h2=>by
  rcases h1.inv with h|⟨_,_,h⟩|⟨_,_,_,h,_⟩|⟨_,_,_,h,_⟩|⟨_,_,_,_,h,_⟩|rfl<;>first|cases h|exact h2
 |a,.ref _ _ _ _,c,h1,h2=>by
  rcases h1.inv with h|⟨_,_,h⟩|⟨_,_,_,h,_⟩|⟨_,_,_,h,_⟩|⟨_,_,_,_,h,_⟩|rfl<;>first|cases h|exact h2
 |a,.own _ _,c,h1,h2=>by
  rcases h1.inv with h|⟨_,_,h⟩|⟨_,_,_,h,_⟩|⟨_,_,_,h,_⟩|⟨_,_,_,_,h,_⟩|rfl<;>first|cases h|exact h2
 |a,.view _ _ _ _,c,h1,h2=>by
  rcases h1.inv with h|⟨_,_,h⟩|⟨_,_,_,h,_⟩|⟨_,_,_,h,_⟩|⟨_,_,_,_,h,_⟩|rfl<;>first|cases h|exact h2
 |a,.fn _ _ _,c,h1,h2=>by
  rcases h1.inv with h|⟨_,_,h⟩|⟨_,_,_,h,_⟩|⟨_,_,_,h,_⟩|⟨_,_,_,_,h,_⟩|rfl<;>first|cases h|exact h2
 |a,.mp _,c,h1,h2=>by
  rcases h1.inv with h|⟨_,_,h⟩|⟨_,_,_,h,_⟩|⟨_,_,_,h,_⟩|⟨_,_,_,_,h,_⟩|rfl<;>first|cases h|exact h2
 |a,.ifc _ _,c,h1,h2=>by
  rcases h1.inv with h|⟨_,_,h⟩|⟨_,_,_,h,_⟩|⟨_,_,_,h,_⟩|⟨_,_,_,_,h,_⟩|rfl<;>first|cases h|exact h2
theorem Ka.trans:∀{a b c:List D},Ka a b->Ka b c->Ka a c
 |[],b,c,h1,h2=>by simp only[Ka]at h1;subst h1;exact h2
 |d::a,b,c,h1,h2=>by
  simp only[Ka]at h1;obtain⟨e,r,rfl,k1,k2⟩:=h1;simp only[Ka]at h2;obtain⟨e',r',rfl,k3,k4⟩:=h2;exact Ka.cons (Sub.trans k1 k3) (Ka.trans k2 k4)
end
theorem At.trans{a b c:St}(h1:At a b) (h2:At b c):At a c:=by
 obtain⟨h1,g,k1⟩:=h1;obtain⟨h2,g',k2⟩:=h2;exact⟨h1.trans h2,g'++g,by simp_all⟩
def CH(N:Nat) (K:Exit->St->Prop):Prop:=∀s s',At s' s->Fit N s->K .normal s->K .normal s'
theorem dO{s S:St}(hs:At s S) (hb:Fit N S):∀(G:Gh) (w:World) (a:Act),N<=G.n->Rel G w a s->∃G',Rel G' w a S/\StepN N G w s.m G' w S.m:=by
 intro G w a hN' hr0;obtain⟨h1,g,h2⟩:=hs;obtain⟨hN,ht,hm0⟩:=hb;have hst:S.m=s.m.take S.m.length:=by simp_all
 have hk:S.m.length<=s.m.length:=by grind
 have hm:(s.m.take S.m.length).all (Ent.below S.m.length)=true:=by grind
 have hr:Rel G w a ⟨S.t,s.m⟩:=⟨h1.rel hr0.t,hr0.inv,hr0.defers⟩;generalize hkk:S.m.length=k at *;obtain⟨St,Sm⟩:=S;simp only at hst ht hkk hr;subst hst;clear hr0 h2 hkk hm0;have hi:=hr.inv;have hget:∀(i:Nat) e,(s.m.take k)[i]?=some e->i<k/\s.m[i]?=some e:=by
  grind
 have hinv:Inv (G.trim k) w (s.m.take k):=by
  refine⟨by grind[Gh.trim],hi.F,λi e he=>?_,λi j e e' he he' hl hl' b hb hb'=>hi.apart i j e e' (hget i e he).2 (hget j e' he').2 hl hl' b hb hb',hi.gl.bare λ_ h=>h⟩;have hbe:e.below k=true:=Uaa.1 hm e (List.mem_of_getElem? he);have hent:=hi.ent i e (hget i e he).2
  cases e with
  |live S Ja l=>
   obtain⟨a1,a2,a3,a4,a5⟩:=hent;refine⟨a1,a2,a3,a4,?_⟩;rcases a5 with a5|⟨b',cs,T,hb',hF,hblk,hsz,hrow⟩
   .exact .inl a5
   .exact .inr ⟨b',cs,T,hb',hF,hblk,hsz,hrow.trim (by grind[Ent.below])⟩
  |mp es=>
   obtain⟨a1,b,en,cl,a2,a3,a4,a5⟩:=hent;exact⟨a1,b,en,cl,a2,a3,a4,a5.trim (by grind[Ent.below])⟩
  |gone=>trivial
 refine⟨G.trim k,⟨hr.t.trim ht,hinv,hr.defers⟩,⟨λ_ h=>h,λ_ _=>rfl,hN,λi hi'=>.inl ⟨rfl,rfl,rfl,rfl,rfl⟩,rfl,rfl,rfl,saa _,λ_ _ _=>rfl,λ_ _ h=>.inl h,?_⟩⟩;rintro b hb ⟨i,e,he,hl,hB⟩;exact⟨i,e,(hget i e he).2,hl,hB⟩
def KK(N:Nat) (K:Exit->St->Prop) (e:Exit) (s:St):Prop:=∀(G:Gh) (w:World) (a:Act),N<=G.n->Rel G w a s->∃s' G',K e s'/\Rel G' w a s'/\StepN N G w s.m G' w s'.m
theorem KK.of{K:Exit->St->Prop}{e:Exit}{s:St}(h:K e s):KK N K e s:=λG w a hN hr=>⟨s,G,h,hr,StepN.refl _ _ _ hN⟩
theorem T.X1{c:C}{K:Exit->St->Prop}{s:St}(h:Tm.T P N c (KK N K) s):Tm.T P N c K s:=by
 intro code hc G w a hN hr;refine Code.wp_mono ?_ (h code hc G w a hN hr);rintro e a' w' ⟨s',G',hK,hr',hs'⟩;obtain⟨s'',G'',k1,k2,k3⟩:=hK G' w' a' hs'.n hr';exact⟨s'',G'',k1,k2,hs'.trans k3⟩
theorem sR{K:Exit->St->Prop}:CH N (KK N K):=by
 intro s s' h1 h2 h3 G w a hN hr;obtain⟨G',k1,k2⟩:=dO h1 h2 G w a hN hr;obtain⟨s'',G'',m1,m2,m3⟩:=h3 G' w a k2.n k1;exact⟨s'',G'',m1,m2,k2.trans m3⟩
theorem T.at{c:C}{K:Exit->St->Prop}{s S:St}(hs:At s S) (hb:Fit N S) (h:Tm.T P N c K S):Tm.T P N c K s:=by
 obtain⟨h1,g,h2⟩:=hs;obtain⟨b1,b2,b3⟩:=hb;refine T.sub S.t h1 ?_;refine T.trim S.m.length b1 (by grind) b2 (by simp_all) ?_
 simp_all
theorem T.qx{a b:C}{K:Exit->St->Prop}{s:St}(h:Tm.T P N a (KS P N b K) s):Tm.T P N (.seq a b) K s:=T.seq (h.mono λe s' h'=>by cases e<;>exact h')
theorem oH{b:C}{K:Exit->St->Prop}:CH N (KS P N b K):=λs s' h1 h2 h3=>T.at h1 h2 h3
theorem rR{id:Nat}{K:Exit->St->Prop}(h:CH N K):CH N (KB id K):=h
def KM{X:Type}(id:Nat) (K:Exit->St->Prop) (S:X->St) (Gr fin:X->Prop) (μ:X->Nat) (y:X) (e:Exit) (s':St):Prop:=
 match e with|.normal=>∃z,Gr z/\μ z<μ y/\At s' (S z)|.exit j=>if j=id then(∃z,fin z/\At s' (S z))else K (.exit j) s'|e=>K e s'
section
variable {X:Type} {id:Nat} {K:Exit->St->Prop} {S:X->St} {Gr fin:X->Prop} {μ:X->Nat} {y:X} {s':St}
theorem LK{j:Nat}:KM id K S Gr fin μ y (.exit j) s'=if j=id then(∃z,fin z/\At s' (S z))else K (.exit j) s':=gaa rfl rfl
end
def KI(id n:Nat) (K:Exit->St->Prop) (S:Nat->St) (i:Nat) (e:Exit) (s':St):Prop:=
 match e with|.normal=>i<n/\At s' (S (i+1))|.exit j=>if j=id then i=n/\At s' (S n)else K (.exit j) s'|e=>K e s'
section
variable {id n i:Nat} {K:Exit->St->Prop} {S:Nat->St} {s':St}
theorem Qt:KI id n K S i .normal s'=(i<n/\At s' (S (i+1))):=gaa rfl rfl
theorem iG{j:Nat}:KI id n K S i (.exit j) s'=if j=id then i=n/\At s' (S n)else K (.exit j) s':=gaa rfl rfl
end
theorem uR{X:Type}{id:Nat}{K:Exit->St->Prop}{S:X->St}{Gr fin:X->Prop}{μ:X->Nat}{y:X}:CH N (KM id K S Gr fin μ y):=by
 rintro s s' h1 - ⟨z,k1,k2,k3⟩;exact⟨z,k1,k2,h1.trans k3⟩
theorem tR{id n i:Nat}{K:Exit->St->Prop}{S:Nat->St}:CH N (KI id n K S i):=by
 rintro s s' h1 - ⟨k1,k2⟩;exact⟨k1,h1.trans k2⟩
theorem T.vX{id:Nat}{x:C}{K:Exit->St->Prop}{s:St}{X:Type}(S:X->St) (Gr fin:X->Prop) (μ:X->Nat) (x₀:X) (h0:Gr x₀) (hs:At s (S x₀))
 (hb:∀y,Gr y\/fin y->Fit N (S y))
 (round:∀y,Gr y->Tm.T P N x (KM id K S Gr fin μ y) (S y))
 (hst:(∃z,fin z)->CH N K) (rest:∀z,fin z->K .normal (S z)):Tm.T P N (.block id (.loop x)) K s:=by
 refine T.at hs (hb x₀ (.inl h0)) ?_;refine T.block (T.N8 S Gr μ x₀ h0 (Ka.Yj _) rfl (λy hy=>hb y (.inl hy)) λy hy=>(round y hy).mono ?_);intro e s' h
 cases e with
 |normal=>obtain⟨z,h1,h2,h3,h4⟩:=h;grind
 |exit j=>
  simp only[LK]at h⊢;split at h
  .rename_i hj;rw[if_pos hj];obtain⟨z,hz,h1⟩:=h;exact hst ⟨z,hz⟩ (S z) s' h1 (hb z (.inr hz)) (rest z hz)
  simp_all
 |_=>exact h
theorem T.O1{id:Nat}{x:C}{K:Exit->St->Prop}{s:St}(n:Nat) (S:Nat->St) (hs:At s (S 0)) (hb:∀i,i<=n->Fit N (S i))
 (round:∀i,i<=n->Tm.T P N x (KI id n K S i) (S i))
 (hst:CH N K) (rest:K .normal (S n)):Tm.T P N (.block id (.loop x)) K s:=by
 refine T.vX (X:=Nat) S (λi=>i<=n) (λi=>i=n) (λi=>n-i) 0 (wab _) hs (λy hy=>hb y (by omega)) (λi hi=>(round i hi).mono ?_) (λ_=>hst) (λz hz=>by simp_all);intro e s' h
 cases e with
 |normal=>
  simp only[Qt]at h;exact⟨i+1,h.1,by grind,h.2⟩
 |exit j=>
  simp only[iG,LK]at h⊢
  grind
 |_=>exact h
theorem HR(d:D):um [d]=d:=gaa rfl rfl
theorem GR:um []=.tup []:=gaa rfl rfl
theorem JR(d e:D) (l:List D):um (d::e::l)=.tup (d::e::l):=gaa rfl rfl
theorem ZN{c:Prop} [Decidable c] (p:D×List Ent) (f:D->List Ent->Prop):Ct (if c then some p else none) f=(c/\f p.1 p.2):=by
 by_cases h:c<;>simp[h,Ct]
theorem KT{α β:Type}{c:Prop} [Decidable c] (a:α) (g:α->β):(if c then some a else none:Option α).map g=if c then some (g a)else none:=by
 simp
theorem MR{n:Int}(h:-9223372036854775808<=n/\n<=9223372036854775807):da .i64 n=n:=by
 grind[Du,IntKind.wrap_i64]
theorem oW(a b:Nat):Int.fdiv (a:Int) (b:Int)=((a / b:Nat):Int):=(Int.fdiv_eq_ediv_of_nonneg _ (by omega)).trans (by omega)
section
variable {k:Nat} {m:List Ent} {id Ja S lo n:Nat} {l:List D}
end
theorem WV{n:Int}(h:0<=n/\n<18446744073709551616):da .u64 n=n:=by grind[da]
theorem Cc{k:Nat}(h:k<18446744073709551616):da .u64 (k:Int)=(k:Int):=WV (by omega)
theorem rO:((0:Nat):Int)=0:=gaa rfl rfl
theorem eQ(b:Bool):kf (Op.unary .not (.bool b))=some (.bool (!b)):=gaa rfl rfl
theorem QF(a b:Nat):((a:Int)<(b:Int))↔a<b:=by omega
theorem kS{k:Nat}{a b:List D}(ha:belows k a=true) (hb:belows k b=true):belows k (a++b)=true:=by
 induction a with
 |nil=>grind
 |cons d a ih=>
  simp_all[belows]
theorem UT(k:IntKind) (n:Int):kf (Op.unary .neg (.int k n))=some (.int k (da k (-n))):=by
 show some (Value.int k (k.wrap (0-n)))=_
 grind[Du]
theorem MT(k:IntKind) (a b:Int):kf (Builtin.max_ #[] 0 [Value.int k a,Value.int k b].toArray)=some (.int k (max a b)):=by
 simp only[Builtin.max_,kf,Vad,bind_pure,Builtin.max2];by_cases h:a<b
 .rw[if_pos h,Int.max_eq_right (by omega)];rfl
 .rw[if_neg h,Int.max_eq_left (by omega)];rfl
theorem PT(k:IntKind) (a b:Int):kf (Builtin.min_ #[] 0 [Value.int k a,Value.int k b].toArray)=some (.int k (min a b)):=by
 simp only[Builtin.min_,kf,Vad,bind_pure,Builtin.min2];by_cases h:b<a
 .rw[if_pos h,Int.min_eq_right (by omega)];rfl
 .rw[if_neg h,Int.min_eq_left (by omega)];rfl
section
variable {α:Type} {l b c:List α} {a a' x:α}
end
open Go.RowKit (Below)
open Go.WideShapes
inductive Sh where
 |bool
 |int (k:IntKind)
 |str
 |sl (S:Nat) (A:Bool) (e:Sh)
 |cat (l:List Sh)
def aggT(P:Program) (t:TypeId):Bool:=
 match P.underlying t with
 |some (.struct _)=>true
 |some (.array _ _)=>true
 |_=>false
def pq(f:TypeId->Option Sh) (P:Program):List Field->Nat->Option (List Sh×Nat)
 |[],off=>some ([],off)
 |g::gs,off=>
  if g.offset=off then
   match f g.type,pq f P gs (off+P.cellsOf g.type)with
   |some s,some (l,e)=>some (s::l,e)
   |_,_=>none
  else none
def shOf(P:Program):Nat->TypeId->Option Sh
 |0,_=>none
 |n+1,t=>
  match P.underlying t with
  |some .bool=>some .bool
  |some (.int k)=>some (.int k)
  |some .string=>some .str
  |some (.slice e)=>if 0<P.cellsOf e/\0<P.bytesOf e then(shOf P n e).map λs=>.sl (P.cellsOf e) (aggT P e) s else none
  |some (.struct fs)=>
   match pq (shOf P n) P fs.toList 0 with
   |some (l,e)=>if e=P.cellsOf t then some (.cat l)else none
   |none=>none
  |some (.array k e)=>if P.cellsOf t=k*P.cellsOf e then(shOf P n e).map λs=>.cat (jaa k s)else none
  |_=>none
def Rq(A:Bool) (cs:List D):D:=bif A then .agg cs else cs.headD .dead
mutual
def Sl:Sh->List D->Prop
 |.bool,ds=>∃b,ds=[.v (.bool b)]
 |.int k,ds=>∃n,ds=[.v (.int k n)]/\(Lit.int k n).wf=true
 |.str,ds=>∃s:ByteArray,ds=[.v (.string s)]/\s.size<=maxLen
 |.sl S A e,ds=>∃l,ds=[.sl S l]/\l.length<=140737488355328/\∀d∈l,∃cs,Sl e cs/\d=Rq A cs
 |.cat l,ds=>Ns l ds
def Ns:List Sh->List D->Prop
 |[],ds=>ds=[]
 |s::l,ds=>∃a b,ds=a++b/\Sl s a/\Ns l b
end
theorem YA{G:Gh}{w:World}:∀{a b:List D}{us vs:List Value},VsRel G w a us->VsRel G w b vs->VsRel G w (a++b) (us++vs)
 |[],b,us,vs,h1,h2=>by simp only[VsRel]at h1;simp_all
 |d::a,b,us,vs,h1,h2=>by
  simp only[VsRel]at h1;obtain⟨u,r,rfl,k1,k2⟩:=h1;simp only[Naa,VsRel];exact⟨u,_,rfl,k1,YA k2 h2⟩
theorem FB{f:TypeId->Option Sh}{P:Program}:∀{fs:List Field}{off:Nat}{l:List Sh}{e:Nat},pq f P fs off=some (l,e)->off<=e
 |[],off,l,e,h=>by grind[pq]
 |g::gs,off,l,e,h=>by
  simp only[pq]at h;split at h
  .split at h
   .rename_i s l' e' h1 h2;simp at h;have:=FB h2;omega
   .cases h
  .cases h
def R0(w:World):Gh:=Gh.bare λb=>b<w.heap.size
theorem OH{w:World}{a:Addr}{v:Value}(h:w.cell? a=some v):a.block<w.heap.size:=by
 grind[World.cell?]
section
variable {H:Type} {enc:TypeId×Value->H} {P:Program} {w:World} {base:Nat} {spare:Nat->Bool} {held:Bool}
theorem Kq{P:Program}{e:TypeId}:∀{l:List (DataW H)}{d:DataW H},d∈l->∀n∈d.weights P e,n∈DataW.weightsAll P e l
 |[],_,h=>by cases h
 |x::l,d,h=>by
  intro n hn;simp only[DataW.weightsAll,tab];rcases oab.1 h with rfl|h
  .simp_all
  .exact .inr (Kq h n hn)
theorem mB{n fuel:Nat}{cs:List Value}(ih:∀t cs x s,shOf P n t=some s->DataW.trod enc P w base spare held fuel t cs=some x->(∀n∈x.1.weights P t,n<=reachBytes)->∃ds,Sl s ds/\VsRel (R0 w) w ds cs/\∀c∈cs,one c=true) :
 ∀(fs:List Field) (off:Nat) (l:List Sh) (e:Nat),pq (shOf P n) P fs off=some (l,e)->
  (∀f∈fs,∃x,DataW.trod enc P w base spare held fuel f.type ((cs.drop f.offset).take (P.cellsOf f.type))=some x/\∀n∈x.1.weights P f.type,n<=reachBytes)->
  ∃ds,Ns l ds/\VsRel (R0 w) w ds ((cs.drop off).take (e-off))/\∀c∈(cs.drop off).take (e-off),one c=true
 |[],off,l,e,h,_=>by
  simp[pq]at h;obtain⟨rfl,rfl⟩:=h;refine⟨[],by simp[Ns],by simp[VsRel],by simp⟩
 |g::gs,off,l,e,h,hx=>by
  simp only[pq]at h;split at h
  .rename_i hoff;split at h
   .rename_i s l' e' h1 h2;simp only[Laa,Baa]at h;obtain⟨rfl,rfl⟩:=h;obtain⟨x,hx0,hw0⟩:=hx g (by simp);obtain⟨a,k1,k2,k3⟩:=ih _ _ _ _ h1 hx0 hw0;obtain⟨b,m1,m2,m3⟩:=mB ih gs _ _ _ h2 λf hf=>hx f (by grind);have hle:=FB h2;have heq:(cs.drop off).take (e'-off)=(cs.drop g.offset).take (P.cellsOf g.type)++(cs.drop (off+P.cellsOf g.type)).take (e'-(off+P.cellsOf g.type)):=by
     rw[show e'-off=P.cellsOf g.type+(e'-(off+P.cellsOf g.type)) by omega,List.take_add,Mac,hoff]
    rw[heq];refine⟨a++b,by simp only[Ns];grind,YA k2 m2,λc hc=>?_⟩
    grind
   .cases h
  .cases h
theorem SI{n fuel S:Nat}{cs:List Value}{e:TypeId}{s:Sh}(ih:∀cs x,DataW.trod enc P w base spare held fuel e cs=some x->(∀n∈x.1.weights P e,n<=reachBytes)->∃ds,Sl s ds/\VsRel (R0 w) w ds cs/\∀c∈cs,one c=true) :
 ∀(k i:Nat),(∀j,i<=j->j<i+k->∃x,DataW.trod enc P w base spare held fuel e ((cs.drop (j*S)).take S)=some x/\∀n∈x.1.weights P e,n<=reachBytes)->
  ∃ds,Ns (jaa k s) ds/\VsRel (R0 w) w ds ((cs.drop (i*S)).take (k*S))/\∀c∈(cs.drop (i*S)).take (k*S),one c=true
 |0,i,_=>⟨[],by simp[Ns],by simp[VsRel],by simp⟩
 |k+1,i,hx=>by
  obtain⟨x,hx0,hw0⟩:=hx i (saa _) (by omega);obtain⟨a,k1,k2,k3⟩:=ih _ _ hx0 hw0;obtain⟨b,m1,m2,m3⟩:=SI (n:=n) ih k (i+1) λj h1 h2=>hx j (by omega) (by omega);have heq:(cs.drop (i*S)).take ((k+1)*S)=(cs.drop (i*S)).take S++(cs.drop ((i+1)*S)).take (k*S):=by
   grind[Nat.succ_mul,Mac]
  rw[heq];refine⟨a++b,by simp only[iab,Ns];grind,YA k2 m2,λc hc=>?_⟩
  grind
theorem lJ{A:Bool}{ds:List D}{cs:List Value}(h:VsRel (R0 w) w ds cs) (h1:∀c∈cs,one c=true) (hA:A=false->cs.length=1) :
 ∃u:Value,VRel (R0 w) w (Rq A ds) u/\u.cells=cs.toArray/\(A=true->u=.agg cs.toArray)/\(A=false->∃c,cs=[c]/\u=c):=by
 cases A with
 |true=>exact⟨.agg cs.toArray,by simp only[Rq,cond_true,VRel];simp_all,rfl,λ_=>rfl,λh=>by cases h⟩
 |false=>
  match cs,hA rfl with
  |[c],_=>
   match ds,h with
   |d::r,h=>
    simp only[VsRel]at h;obtain⟨u,us,hu,hv,hr⟩:=h;injection hu with hu1 hu2;subst hu1;have h1c:=h1 c (by simp);have hcells:c.cells=[c].toArray:=by cases c<;>simp[one]at h1c<;>rfl
    exact⟨c,by grind[Rq],hcells,λh=>Bool.noConfusion h,λ_=>⟨c,rfl,rfl⟩⟩
theorem gR{n:Nat}{t:TypeId}{s:Sh}(h:shOf P n t=some s) {fuel:Nat}{cs:List Value}{x:DataW H×List MemPlace}(hx:DataW.trod enc P w base spare held fuel t cs=some x):aggT P t=false->cs.length=1:=by
 intro hA
 cases n with
 |zero=>grind[shOf]
 |succ n=>
  simp only[shOf]at h;simp only[aggT]at hA;split at h
  .rename_i hu;obtain⟨b,rfl,_⟩:=DataW.trod_bool hu hx;rfl
  .rename_i hu;obtain⟨b,rfl,_⟩:=DataW.trod_int hu hx;rfl
  .rename_i hu;obtain⟨b,rfl,_⟩:=DataW.trod_string hu hx;rfl
  .rename_i hu;rcases DataW.trod_slice hu hx with⟨rfl,_⟩|⟨a,len,cap,elems,rest,m,_,rfl,_⟩<;>rfl
  all_goals simp_all
theorem Qw:∀(n:Nat) (fuel:Nat) (t:TypeId) (cs:List Value) (x:DataW H×List MemPlace) (s:Sh),shOf P n t=some s->DataW.trod enc P w base spare held fuel t cs=some x->(∀n∈x.1.weights P t,n<=reachBytes)->
 ∃ds,Sl s ds/\VsRel (R0 w) w ds cs/\∀c∈cs,one c=true
 |0,fuel,t,cs,x,s,h,_,_=>by grind[shOf]
 |n+1,fuel,t,cs,x,s,h,hx,hwt=>by
  simp only[shOf]at h;split at h
  .rename_i hu;injection h with h;subst h;obtain⟨b,rfl,_⟩:=DataW.trod_bool hu hx;exact⟨[.v (.bool b)],by simp only[Sl];simp,by simp[VsRel,VRel],by simp[one]⟩
  .rename_i k hu;injection h with h;subst h;obtain⟨b,rfl,_,hw⟩:=DataW.trod_int hu hx;exact⟨[.v (.int k b)],by simp only[Sl];simp_all,by simp[VsRel,VRel],by simp[one]⟩
  .rename_i hu;injection h with h;subst h;obtain⟨b,rfl,_,hw⟩:=DataW.trod_string hu hx;exact⟨[.v (.string b)],by simp only[Sl];simp_all,by simp[VsRel,VRel],by simp[one]⟩
  .rename_i e hu;split at h
   .rename_i hpos;simp only[haa]at h;obtain⟨se,hse,rfl⟩:=h;rcases DataW.trod_slice hu hx with⟨rfl,_⟩|⟨a,len,cap,elems,rest,m,_,rfl,rfl,hb,hl,hm,hlen,hel,_,_⟩
    .refine⟨[.sl (P.cellsOf e) []],by simp only[Sl];simp,?_,by simp[one]⟩;simp only[VsRel,VRel]
     grind
    .simp only[DataW.weights,hu,oab,tab]at hwt;have hlb:=hwt _ (.inl rfl);have hle:len<=140737488355328:=by
      simp only[Dab]at hlb;have h1:=Nat.le_mul_of_pos_right (elems.length+rest.length) hpos.2
      grind[reachBytes]
     have each:∀i,i<len->∃d u,(∃cs,Sl se cs/\d=Rq (aggT P e) cs)/\VRel (R0 w) w d u/\u.cells.size=P.cellsOf e/\(∀j c,u.cells[j]?=some c->one c=true/\w.cell? ((a.add (i*P.cellsOf e)).add j)=some c):=by
      intro i hi;have h1:=hel i hi;rw[faa (by omega)]at h1;obtain⟨ecs,k1,k2⟩:=xab.1 h1;obtain⟨ds,m1,m2,m3⟩:=Qw n _ _ _ _ _ hse k2 (λq hq=>hwt q (.inr (.inl (Kq (mad (laa _)) q hq))));obtain⟨_,q1,q2⟩:=World.cells?_some k1;obtain⟨u,r1,r2,_,_⟩:=lJ (A:=aggT P e) m2 m3 (gR hse k2)
      grind
     have hrow:∀k,k<=len->∃l:List D,l.length=k/\(∀d∈l,∃cs,Sl se cs/\d=Rq (aggT P e) cs)/\∀(i:Nat) d,l[i]?=some d->∃u,VRel (R0 w) w d u/\u.cells.size=P.cellsOf e/\(∀j c,u.cells[j]?=some c->one c=true/\w.cell? ((a.add (i*P.cellsOf e)).add j)=some c):=by
      intro k
      induction k with
      |zero=>simp
      |succ k ih=>
       intro hk;obtain⟨l,l1,l2,l3⟩:=ih (by omega);obtain⟨d,u,d1,d2,d3,d4⟩:=each k (by omega);refine⟨l++[d],by grind,λd' hd'=>?_,λi d' hd'=>?_⟩
       all_goals grind
     obtain⟨l,l1,l2,l3⟩:=hrow len (saa _);refine⟨[.sl (P.cellsOf e) l],by simp only[Sl];simp_all,?_,by simp[one]⟩;simp only[VsRel,VRel];refine⟨_,_,rfl,⟨some a,len,cap,rfl,l1.symm,hl,?_⟩,rfl⟩
     cases l with
     |nil=>simp
     |cons d0 l'=>
      obtain⟨u0,_,us,uc⟩:=l3 0 d0 rfl;have h0:∃c,u0.cells[0]?=some c:=⟨u0.cells[0]'(by omega),Array.getElem?_eq_getElem (by omega)⟩;obtain⟨c,hc⟩:=h0;have hc2:=(uc 0 c hc).2;have hadd:(a.add (0*P.cellsOf e)).add 0=a:=by simp[Addr.add]
      rw[hadd]at hc2;obtain⟨b,off,spot⟩:=a;have hspot:spot=none:=by simpa using World.cell?_spot hc2
      subst hspot;refine .inr ⟨b,off,rfl,OH hc2,?_⟩;rw[td];intro i d hd;obtain⟨u,u1,u2,u3⟩:=l3 i d hd;refine⟨u,u1,u2,λj c hj=>?_⟩;obtain⟨c1,c2⟩:=u3 j c hj;refine⟨c1,?_⟩;have haddr:(Addr.add (Addr.add ⟨b,off,none⟩ (i*P.cellsOf e)) j)=⟨b,off+i*P.cellsOf e+j,none⟩:=by
       unfold Addr.add
       grind
      simp_all
   .cases h
  .rename_i fs hu;split at h
   .rename_i l e hsf;split at h
    .rename_i he;injection h with h;subst h;obtain⟨xs,m,rfl,rfl,hlen,hxl,hget⟩:=DataW.trod_struct hu hx;simp only[DataW.weights,hu]at hwt;obtain⟨ds,k1,k2,k3⟩:=mB (n:=n) (fuel:=m) (cs:=cs) (λt cs x s h1 h2 h3=>Qw n _ _ _ _ _ h1 h2 h3) fs.toList 0 l e hsf (λf hf=>by
      obtain⟨i,hi,hfi⟩:=List.mem_iff_getElem.1 hf;have hi':i<fs.size:=by omega
      have:=hget i f (by simp_all);rw[faa (by omega)]at this;exact⟨_,this,λq hq=>hwt q (DataW.weights_mem_each (j:=i) (t:=f.type) (d:=(xs[i]'(by omega)).1) (by simp_all) (by simp_all) q hq)⟩)
     rw[tac,uac,he,←hlen,Nab]at k2 k3;exact⟨ds,by simp only[Sl];omega,k2,k3⟩
    .cases h
   .cases h
  .rename_i k e hu;split at h
   .rename_i he;simp only[haa]at h;obtain⟨se,hse,rfl⟩:=h;obtain⟨xs,m,rfl,rfl,hlen,hxl,hget⟩:=DataW.trod_array hu hx;simp only[DataW.weights,hu]at hwt;obtain⟨ds,k1,k2,k3⟩:=SI (n:=n) (fuel:=m) (S:=P.cellsOf e) (cs:=cs) (e:=e) (s:=se) (λcs x h2 h3=>Qw n _ _ _ _ _ hse h2 h3) k 0 (λj _ hj=>by
     grind[Kq,mad,laa])
    rw[Nat.zero_mul,tac,←he,←hlen,Nab]at k2 k3;exact⟨ds,by simp only[Sl];omega,k2,k3⟩
   .cases h
  .cases h
def LookV(A:Bool) (s:Sh) (d:D):Prop:=∃ds,Sl s ds/\d=Rq A ds
theorem arg_tree{n:Nat}{t:TypeId}{s:Sh}{v:Value}{d:DataW H}{p:List MemPlace}{r:Reach}{b0:Nat}(h:shOf P n t=some s) (hx:DataW.Trod enc P w base spare held t v d p) (hv:Value.okWide P w r b0 t v) (hwt:∀n∈d.weights P t,n<=reachBytes) :
 ∃d',LookV (aggT P t) s d'/\VRel (R0 w) w d' v:=by
 obtain⟨fuel,hx⟩:=hx;obtain⟨ds,k1,k2,k3⟩:=Qw n _ _ _ _ _ h hx hwt;obtain⟨u,u1,u2,u3,u4⟩:=lJ (A:=aggT P t) k2 k3 (gR h hx);refine⟨Rq (aggT P t) ds,⟨ds,k1,rfl⟩,?_⟩;have:u=v:=by
  cases hA:aggT P t with
  |true=>
   rw[u3 hA];unfold aggT at hA;split at hA
   .rename_i hu;simp only[Value.okWide,hu]at hv;obtain⟨cs,rfl,_⟩:=hv;simp[Value.cells]
   .rename_i hu;simp only[Value.okWide,hu]at hv;obtain⟨cs,rfl,_⟩:=hv;simp[Value.cells]
   simp_all
  |false=>
   obtain⟨c,hc,rfl⟩:=u4 hA
   cases n with
   |zero=>grind[shOf]
   |succ n=>
    simp only[shOf]at h;unfold aggT at hA;split at h
    .rename_i hu;obtain⟨b,rfl⟩:=okWide_bool hu hv;grind[Value.cells]
    .rename_i hu;obtain⟨b,rfl⟩:=okWide_int hu hv;grind[Value.cells]
    .rename_i hu;obtain⟨b,rfl⟩:=okWide_string hu hv;grind[Value.cells]
    .rename_i hu;obtain⟨a,l,c',rfl⟩:=okWide_slice hu hv;grind[Value.cells]
    all_goals simp_all
 simp_all
end
theorem bJ{G G':Gh}{w w':World}{m':List Ent}(h:Step G w [] G' w' m'):Below w.heap.size w w':=
 ⟨h.os,h.tape,h.output,h.size,λk hk=>h.keep k hk λ⟨i,e,he,_⟩=>by simp at he⟩
theorem gok_tab{P:Program}{W:World}{name:String}(hg:P.globalNamed name=some 2) (hT:Go.Lib.TabIs P W name .i64 [31,28,31,30,31,30,31,31,30,31,30,31]):GOK (R0 W) W:=by
 intro g d h;unfold gtab at h;split at h
 .injection h with h;subst h;have hc:=hT.cell hg;refine(by
   simp only[VRel];refine⟨2,0,.agg (([31,28,31,30,31,30,31,31,30,31,30,31]:List Int).map λn=>Value.int .i64 n).toArray,rfl,?_,⟨_,rfl,?_,?_⟩,?_⟩
   .exact OH (a:=⟨2,0,none⟩) (hc 0 (by decide))
   .simp only[Maa,Wab,VsRel,VRel];simp
   .intro c hc;simp only[Maa,Wab,oab,List.not_mem_nil,or_false]at hc;rcases hc with rfl|rfl|rfl|rfl|rfl|rfl|rfl|rfl|rfl|rfl|rfl|rfl<;>rfl
   .intro j c hj;have hj':(([31,28,31,30,31,30,31,31,30,31,30,31]:List Int).map λn=>Value.int .i64 n)[j]?=some c:=by grind[Value.cells]
    obtain⟨hlt,hcj⟩:=Haa.1 hj';have hlt':j<([31,28,31,30,31,30,31,31,30,31,30,31]:List Int).length:=by grind
    rw[List.getElem_map]at hcj;subst hcj;refine⟨rfl,?_⟩
    simp_all:VRel (R0 W) W (.pt (.agg ([31,28,31,30,31,30,31,31,30,31,30,31].map λn=>.v (.int .i64 n)))) (.pointer (some ⟨2,0,none⟩)))
 .cases h
theorem law_walk{P:Program}{f:FuncId}{ds:List D}{vs:List Value}{w:World}(h:CallT P f ds [] λd _=>d=.v (.bool true)) (hv:VsRel (R0 w) w ds vs) (hg:GOK (R0 w) w) :
 Calls P f vs.toArray w λe w'=>e=.returned (.bool true)/\Below w.heap.size w w':=by
 refine(h.2 (R0 w) w vs hv (uz (λ_ h=>h) hg)).mono ?_;rintro e w' ⟨v,d,m',G',rfl,rfl,hvd,-,hs⟩;simp only[VRel]at hvd;subst hvd;exact⟨rfl,bJ hs⟩
variable {P:Program}
theorem jX(op:BinOp) (j k:IntKind) (a b:Int):kf (binOp op 0 (.int j a) (.int k b))=ag op j a k b:=(lS ..).symm
theorem VV(k:IntKind) (n:Int):k.wrap n=da k n:=(Du k n).symm
variable {P:Program}
abbrev Io:=List (Option Nat×Nat×Nat)
def oy(ρ:Io) (j:Nat):Bool:=ρ.all λo=>match o.1 with|some k=>k !=j|none=>true
inductive Sbs (ρ:Io) (m:List Ent):List D->List D->Prop
 |nil:Sbs ρ m [] []
 |same {d l r} (hf:na d=true) (h:Sbs ρ m l r):Sbs ρ m (d::l) (d::r)
 |dead {d l r} (h:Sbs ρ m l r):Sbs ρ m (d::l) (.dead::r)
 |nils {S l r} (h:Sbs ρ m l r):Sbs ρ m (.v (.slice none 0 0)::l) (.sl S []::r)
 |adopt {S u l r} (i:Nat) (hi:ρ[i]?=some (none,S,u)) (h:Sbs ρ m l r):Sbs ρ m (.v (.slice none 0 0)::l) (.own i u::r)
 |agg {a b l r} (ha:Sbs ρ m a b) (h:Sbs ρ m l r):Sbs ρ m (.agg a::l) (.agg b::r)
 |tup {a b l r} (ha:Sbs ρ m a b) (h:Sbs ρ m l r):Sbs ρ m (.tup a::l) (.tup b::r)
 |sl {S a b l r} (ha:Sbs ρ m a b) (h:Sbs ρ m l r):Sbs ρ m (.sl S a::l) (.sl S b::r)
 |own {j v u i l r} (hi:ρ[i]?=some (some j,v,u)) (h:Sbs ρ m l r):Sbs ρ m (.own j v::l) (.own i u::r)
 |ref {j v u i x s l r} (hi:ρ[i]?=some (some j,v,u)) (h:Sbs ρ m l r):Sbs ρ m (.ref j v x s::l) (.ref i u x s::r)
 |view {j v u i lo n l r} (hi:ρ[i]?=some (some j,v,u)) (h:Sbs ρ m l r):Sbs ρ m (.view j v lo n::l) (.view i u lo n::r)
 |mp {j i l r} (hi:ρ[i]?=some (some j,0,0)) (h:Sbs ρ m l r):Sbs ρ m (.mp j::l) (.mp i::r)
 |Wd {S j v a b l r} (hm:m[j]?=some (.live S v a)) (ho:oy ρ j=true) (ha:Sbs ρ m a b) (h:Sbs ρ m l r):Sbs ρ m (.own j v::l) (.sl S b::r)
 |fview {S j v lo n a b l r} (hm:m[j]?=some (.live S v a)) (ho:oy ρ j=true) (hn:lo+n<=a.length) (ha:Sbs ρ m ((a.drop lo).take n) b) (h:Sbs ρ m l r):Sbs ρ m (.view j v lo n::l) (.sl S b::r)
 |fref {S j v x a d e l r} (hm:m[j]?=some (.live S v a)) (ho:oy ρ j=true) (hx:a[x]?=some d) (ha:Sbs ρ m [d] [e]) (h:Sbs ρ m l r):Sbs ρ m (.ref j v x 0::l) (.pt e::r)
 |pt {d e l r} (ha:Sbs ρ m [d] [e]) (h:Sbs ρ m l r):Sbs ρ m (.pt d::l) (.pt e::r)
 |fn {f a b c d l r} (ha:Sbs ρ m a b) (hc:Sbs ρ m c d) (h:Sbs ρ m l r):Sbs ρ m (.fn f a c::l) (.fn f b d::r)
 |ifc {t d e l r} (ha:Sbs ρ m [d] [e]) (h:Sbs ρ m l r):Sbs ρ m (.ifc t d::l) (.ifc t e::r)
def TS(es:List (Value×D)):Bool:=es.all λp=>na p.2
inductive Ets (ρ:Io) (m:List Ent):Io->List Ent->Prop
 |nil:Ets ρ m [] []
 |live {j v u S l l' os es} (hm:m[j]?=some (.live S v l)) (hl:Sbs ρ m l l') (h:Ets ρ m os es):Ets ρ m ((some j,v,u)::os) (.live S u l'::es)
 |new {S u os es} (h:Ets ρ m os es):Ets ρ m ((none,S,u)::os) (.live S u []::es)
 |mp {j es os ees} (hm:m[j]?=some (.mp es)) (hf:TS es=true) (h:Ets ρ m os ees):Ets ρ m ((some j,0,0)::os) (.mp es::ees)
structure Tell (ρ:Io) (s S:St):Prop where
 t:Sbs ρ s.m s.t S.t
 m:Ets ρ s.m ρ S.m
 one:(ρ.filterMap (·.1)).Nodup
def Nb(G:Gh) (m:List Ent) (ρ:Io):Gh where
 F b:=G.F b\/(Xd G m b/\∀(i j:Nat) v,ρ[i]?=some (some j,v)->G.B j≠some b)
 n:=ρ.length
 B i:=match ρ[i]? with|some (some j,_)=>G.B j|_=>none
 V i:=match ρ[i]? with|some (_,_,u)=>u|_=>0
 S i:=match ρ[i]? with|some (some j,_)=>G.S j|some (none,S,_)=>S|_=>0
 N i:=match ρ[i]? with|some (some j,_)=>G.N j|_=>0
 C i:=match ρ[i]? with|some (some j,_)=>G.C j|_=>(0,0)
theorem nU{ρ:Io}{j:Nat}(h:oy ρ j=true):∀(i k:Nat) v,ρ[i]?=some (some k,v)->k≠j:=by
 grind[oy]
theorem VA{G:Gh}{w:World}{m:List Ent}{ρ:Io}(hi:Inv G w m) (hgo:∀(i j:Nat) v,ρ[i]?=some (some j,v)->∃e:Ent,m[j]?=some e/\e.isLive=true) {j:Nat}{e:Ent}(hm:m[j]?=some e) (hl:e.isLive=true) (ho:oy ρ j=true) {b:Nat}(hb:G.B j=some b):(Nb G m ρ).F b:=by
 refine .inr ⟨⟨j,e,hm,hl,hb⟩,λi k v hik hB=>?_⟩;obtain⟨e',he',hl'⟩:=hgo i k v hik;exact nU ho i k v hik (hi.apart k j e' e he' hm hl' hl b hB hb)
theorem Sbs.length{ρ:Io}{m:List Ent}{l r:List D}(h:Sbs ρ m l r):l.length=r.length:=by
 induction h<;>simp_all
theorem RA{ρ:Io}{i:Nat}{o:Option Nat×Nat×Nat}(h:ρ[i]?=some o):i<ρ.length:=by
 grind
theorem Sbs.rel{G:Gh}{w:World}{m:List Ent}{ρ:Io}(hi:Inv G w m) (hgo:∀(i j:Nat) v,ρ[i]?=some (some j,v)->∃e:Ent,m[j]?=some e/\e.isLive=true/\(∀S v' l,e=.live S v' l->v'=v.1)) {l r:List D}(h:Sbs ρ m l r) :
 (∀us,VsRel G w l us->VsRel (Nb G m ρ) w r us)/\(∀b S off,Qa G w b S l off->Qa (Nb G m ρ) w b S r off):=by
 have hgo':∀(i j:Nat) v,ρ[i]?=some (some j,v)->∃e:Ent,m[j]?=some e/\e.isLive=true:=λi j v h=>by grind
 have both:∀{d e:D} {l r:List D},(∀u,VRel G w d u->VRel (Nb G m ρ) w e u)->
  ((∀us,VsRel G w l us->VsRel (Nb G m ρ) w r us)/\(∀b S off,Qa G w b S l off->Qa (Nb G m ρ) w b S r off))->
  ((∀us,VsRel G w (d::l) us->VsRel (Nb G m ρ) w (e::r) us)/\(∀b S off,Qa G w b S (d::l) off->Qa (Nb G m ρ) w b S (e::r) off)):=by
  intro d e l r h1 h2;refine⟨λus hv=>?_,λb S off hv=>?_⟩
  .simp only[VsRel]at hv⊢
   grind
  .simp only[Qa]at hv⊢
   grind
 have first:∀{d e:D},(∀us,VsRel G w [d] us->VsRel (Nb G m ρ) w [e] us)->∀u,VRel G w d u->VRel (Nb G m ρ) w e u:=by
  intro d e h u hu;have:=h [u] (by simp only[VsRel];simp_all);simp only[VsRel]at this
  simp_all
 induction h with
 |nil=>exact⟨λus h=>by simpa [VsRel] using h,λ_ _ _ _=>by simp[Qa]⟩
 |same hf h ih=>exact both (λu hu=>VRel.free (G':=Nb G m ρ) ⟨λ_ h=>Or.inl h,λ_ _=>rfl⟩ hf hu) ih
 |dead h ih=>exact both (λu _=>by simp[VRel]) ih
 |nils h ih=>exact both (λu hu=>by simp only[VRel]at hu⊢;grind) ih
 |adopt i hi' h ih=>
  refine both (λu hu=>?_) ih;simp only[VRel]at hu⊢;exact⟨none,0,0,hu,RA hi',by grind[Nb],λ_=>by grind[Nb]⟩
 |agg ha h iha ih=>
  refine both (λu hu=>?_) ih;simp only[VRel]at hu⊢
  grind
 |tup ha h iha ih=>
  refine both (λu hu=>?_) ih;simp only[VRel]at hu⊢
  grind
 |sl ha h iha ih=>
  refine both (λu hu=>?_) ih;simp only[VRel]at hu⊢;obtain⟨a,n,cap,rfl,hn,hc,g⟩:=hu;refine⟨a,n,cap,rfl,by rw[←ha.length];omega,hc,?_⟩;rcases g with rfl|⟨b,off,rfl,hF,hr⟩
  .exact .inl (Caa ha.length.symm)
  .exact .inr ⟨b,off,rfl,.inl hF,iha.2 b _ off hr⟩
 |own hi' h ih=>
  refine both (λu hu=>?_) ih;obtain⟨e,he,hl,hv⟩:=hgo _ _ _ hi';simp only[VRel]at hu⊢;obtain⟨a,n,c,rfl,g1,g2,g3⟩:=hu;refine⟨a,n,c,rfl,RA hi',by grind[Nb],λ_=>?_⟩;have hent:=hi.ent _ _ he
  cases e with
  |live S v' l'=>
   obtain⟨a1,_⟩:=hent;have:=g3 (by grind)
   grind[Nb]
  |mp es=>
   obtain⟨a1,_⟩:=hent
   grind[Nb]
  |gone=>grind[Ent.isLive]
 |ref hi' h ih=>
  refine both (λu hu=>?_) ih;obtain⟨e,he,hl,hv⟩:=hgo _ _ _ hi';simp only[VRel]at hu⊢;obtain⟨a,rfl,g1,g2,g3⟩:=hu;refine⟨a,rfl,RA hi',by grind[Nb],λ_=>?_⟩;have hent:=hi.ent _ _ he
  cases e with
  |live S v' l'=>
   obtain⟨a1,_⟩:=hent;have:=g3 (by grind);simpa [Nb,hi'] using this
  |mp es=>
   obtain⟨a1,_⟩:=hent;have:=g3 (by omega);simpa [Nb,hi'] using this
  |gone=>grind[Ent.isLive]
 |view hi' h ih=>
  refine both (λu hu=>?_) ih;obtain⟨e,he,hl,hv⟩:=hgo _ _ _ hi';simp only[VRel]at hu⊢;obtain⟨a,c,rfl,g0,g1,g2,g3⟩:=hu;refine⟨a,c,rfl,g0,RA hi',by grind[Nb],λ_=>?_⟩;have hent:=hi.ent _ _ he
  cases e with
  |live S v' l'=>
   obtain⟨a1,_⟩:=hent;have:=g3 (by grind);simpa [Nb,hi'] using this
  |mp es=>
   obtain⟨a1,_⟩:=hent;have:=g3 (by omega);simpa [Nb,hi'] using this
  |gone=>grind[Ent.isLive]
 |mp hi' h ih=>
  refine both (λu hu=>?_) ih;simp only[VRel]at hu⊢;obtain⟨b,rfl,g1,g2⟩:=hu;obtain⟨e,he,hl,hv⟩:=hgo _ _ _ hi';have hent:=hi.ent _ _ he;refine⟨b,rfl,RA hi',λ_=>?_⟩
  cases e with
  |live S v' l'=>
   obtain⟨a1,_⟩:=hent;have:=g2 (by grind)
   grind[Nb]
  |mp es=>
   obtain⟨a1,_⟩:=hent
   grind[Nb]
  |gone=>grind[Ent.isLive]
 |Wd hm ho ha h iha ih=>
  refine both (λu hu=>?_) ih;obtain⟨a1,a2,a3,a4,a5⟩:=hi.ent _ _ hm;simp only[VRel]at hu⊢;obtain⟨a,n,c,rfl,g1,g2,g3⟩:=hu;obtain⟨rfl,rfl,rfl⟩:=g3 a1;refine⟨_,_,_,rfl,by rw[a3,ha.length],by omega,?_⟩;rcases a5 with a5|⟨b',cs,T,hb',hF,hblk,hsz,hrow⟩
  .have h00:=congrArg uad a5.2;dsimp only at h00;exact .inl (Caa (by have:=ha.length;omega))
  .exact .inr ⟨b',(G.C _).2,by simp_all,VA hi hgo' hm rfl ho hb',iha.2 b' _ _ hrow⟩
 |@fview S j v lo n a b l r hm ho hn ha h iha ih=>
  refine both (λu hu=>?_) ih;obtain⟨a1,a2,a3,a4,a5⟩:=hi.ent _ _ hm;simp only[VRel]at hu⊢;obtain⟨p,c,rfl,hnc,hid,hver,hx⟩:=hu;have hlen:=ha.length;rw[List.length_take,List.length_drop]at hlen;refine⟨p,_,c,rfl,by omega,hnc,?_⟩;rcases hx a1 with rfl|⟨b,hb,rfl⟩
  .grind
  .rcases a5 with a5|⟨b',cs,T,hb',hF,hblk,hsz,hrow⟩
   .simp_all
   .rw[hb]at hb';injection hb' with hb';subst hb';refine .inr ⟨_,_,rfl,VA hi hgo' hm rfl ho hb,iha.2 _ _ _ ?_⟩
    grind[js,Zr]
 |fref hm ho hx ha h iha ih=>
  refine both (λu hu=>?_) ih;obtain⟨a1,a2,a3,a4,a5⟩:=hi.ent _ _ hm;simp only[VRel]at hu⊢;obtain⟨p,rfl,hid,hver,hp⟩:=hu;obtain⟨b,hb,rfl⟩:=hp a1;rcases a5 with a5|⟨b',cs,T,hb',hF,hblk,hsz,hrow⟩
  .simp_all
  .rw[hb]at hb';injection hb' with hb';subst hb';obtain⟨u,k1,k2,k3⟩:=td.1 hrow _ _ hx;refine⟨b,_,u,rfl,VA hi hgo' hm rfl ho hb,first iha.1 u k1,?_⟩
   grind
 |pt ha h iha ih=>
  refine both (λu hu=>?_) ih;simp only[VRel]at hu⊢;obtain⟨b,off,x,rfl,hF,hd,hh⟩:=hu;exact⟨b,off,x,rfl,.inl hF,first iha.1 x hd,hh⟩
 |fn ha hc h iha ihc ih=>
  refine both (λu hu=>?_) ih;simp only[VRel]at hu⊢
  grind
 |ifc ha h iha ih=>
  refine both (λu hu=>?_) ih;simp only[VRel]at hu⊢
  grind
theorem Ets.get{ρ:Io}{m:List Ent}{os:Io}{es:List Ent}(h:Ets ρ m os es):os.length=es.length/\∀(i:Nat) e,es[i]?=some e->
 (∃j v u S l l',os[i]?=some (some j,v,u)/\m[j]?=some (.live S v l)/\Sbs ρ m l l'/\e=.live S u l')\/(∃S u,os[i]?=some (none,S,u)/\e=.live S u [])\/(∃j l,os[i]?=some (some j,0,0)/\m[j]?=some (.mp l)/\TS l=true/\e=.mp l):=by
 induction h with
 |nil=>simp
 |live hm hl h ih=>
  grind
 |new h ih=>
  grind
 |mp hm hf h ih=>
  grind
theorem Ets.src{ρ:Io}{m:List Ent}{os:Io}{es:List Ent}(h:Ets ρ m os es):∀(i j:Nat) v,os[i]?=some (some j,v)->∃e:Ent,m[j]?=some e/\e.isLive=true/\(∀S v' l,e=.live S v' l->v'=v.1):=by
 induction h with
 |nil=>simp
 |live hm hl h ih=>
  intro i j v hi
  cases i with
  |zero=>
   simp only[Waa,Laa,Baa]at hi;obtain⟨rfl,rfl⟩:=hi;exact⟨_,hm,rfl,λS v' l he=>by simp_all⟩
  |succ i=>grind
 |new h ih=>
  grind
 |mp hm hf h ih=>
  intro i j v hi
  cases i with
  |zero=>
   simp only[Waa,Laa,Baa]at hi;obtain⟨rfl,rfl⟩:=hi;exact⟨_,hm,rfl,λS v' l he=>nomatch he⟩
  |succ i=>grind
theorem nd.free{G G':Gh}{w:World}(hG:∀b,G.F b->G'.F b):∀{l:List (Value×D)}{es:List MapEntry},TS l=true->nd G w l es->nd G' w l es
 |[],es,_,h=>h
 |(k,d)::l,es,hf,h=>by
  simp only[TS,Xab,paa]at hf;obtain⟨e,r,h0,h1,h2,h3⟩:=h;exact⟨e,r,h0,h1,VRel.free (G':=G') ⟨λ_ h=>hG _ h,λ_ _=>rfl⟩ hf.1 h2,nd.free hG hf.2 h3⟩
theorem WM{ρ:Io}(h:(ρ.filterMap (·.1)).Nodup):∀(i i' j:Nat) v v',ρ[i]?=some (some j,v)->ρ[i']?=some (some j,v')->i=i':=by
 induction ρ with
 |nil=>simp
 |cons o os ih=>
  grind
def Zv(ρ:Io):Nat->Bool
 |0=>true
 |n+1=>Zv ρ n&&(match ρ[n]? with|some (some j,v,u)=>j==n&&u==v|_=>false)
theorem BA{ρ:Io}:∀{n:Nat},Zv ρ n=true->∀i,i<n->∃v,ρ[i]?=some (some i,v,v)
 |0,_,i,hi=>absurd hi (Nad i)
 |n+1,h,i,hi=>by
  simp only[Zv,paa]at h;rcases zab i n with h1|h1
  .exact BA h.1 i h1
  grind
theorem Gy{N:Nat}{ρ:Io}{s S:St}(hk:Zv ρ N=true) (h:Tell ρ s S) {G:Gh}{w:World}{a:Act}(hr:Rel G w a s):Rel (Nb G s.m ρ) w a S/\StepN N G w s.m (Nb G s.m ρ) w S.m:=by
 have hi:=hr.inv;have hgo:=h.m.src;have hget:=h.m.get;have hrow:∀{l r:List D},Sbs ρ s.m l r->∀b S off,Qa G w b S l off->Qa (Nb G s.m ρ) w b S r off:=λhs=>(hs.rel hi hgo).2;have hown:∀b,Xd (Nb G s.m ρ) S.m b->Xd G s.m b:=by
  rintro b ⟨i,e,he,hl,hB⟩;rcases hget.2 i e he with⟨j,v,u,S',l,l',h1,h2,h3,rfl⟩|⟨S',u,h1,rfl⟩|⟨j,l,h1,h2,h3,rfl⟩
  .exact⟨j,_,h2,rfl,by grind[Nb]⟩
  .grind[Nb]
  .exact⟨j,_,h2,rfl,by grind[Nb]⟩
 refine⟨⟨(h.t.rel hi hgo).1 _ hr.t,⟨hget.1,?_,?_,?_,hi.gl.bare λ_ h=>.inl h⟩,hr.defers⟩,⟨λ_ hb=>.inl hb,λ_ _=>rfl,?_,?_,rfl,rfl,rfl,saa _,λ_ _ _=>rfl,?_,λb _ hb=>hown b hb⟩⟩
 .rintro b (hb|hb)
  .exact hi.F b hb
  .exact(Xd.lt hi hb.1).1
 .intro i e he;rcases hget.2 i e he with⟨j,v,u,S',l,l',h1,h2,h3,rfl⟩|⟨S',u,h1,rfl⟩|⟨j,l,h1,h2,h3,rfl⟩
  rotate_left 2
  .obtain⟨a1,b',en,cl,hb',hF,hblk,hrw⟩:=hi.ent _ _ h2;refine⟨by grind[Nb],b',en,cl,by grind[Nb],?_,hblk,nd.free (G':=Nb G s.m ρ) (λ_ h=>Or.inl h) h3 hrw⟩;rintro(hb|⟨_,hb⟩)
   all_goals grind
  .obtain⟨a1,a2,a3,a4,a5⟩:=hi.ent _ _ h2;have hlen:=h3.length;refine⟨by grind[Nb],by grind[Nb],by grind[Nb],by grind[Nb],?_⟩;rcases a5 with a5|⟨b',cs,T,hb',hF,hblk,hsz,hrw⟩
   .grind[Nb]
   .refine .inr ⟨b',cs,T,by grind[Nb],?_,hblk,by grind[Nb],by grind[Nb]⟩;rintro(hb|⟨_,hb⟩)
    all_goals grind
  .exact⟨by grind[Nb],by grind[Nb],by grind[Nb],by simp,.inl (by grind[Nb])⟩
 .intro i i' e e' he he' hl hl' b hb hb';have src:∀(i:Nat) e,S.m[i]?=some e->(Nb G s.m ρ).B i=some b->∃j v e0,ρ[i]?=some (some j,v)/\s.m[j]?=some e0/\e0.isLive=true/\G.B j=some b:=by
   intro i e he hb;rcases hget.2 i e he with⟨j,v,u,S1,l,l',h1,h2,h3,rfl⟩|⟨S1,u,h1,rfl⟩|⟨j,l,h1,h2,h3,rfl⟩
   .exact⟨j,_,_,h1,h2,rfl,by grind[Nb]⟩
   .grind[Nb]
   .exact⟨j,_,_,h1,h2,rfl,by grind[Nb]⟩
  obtain⟨j,v,e0,h1,h2,h3,h4⟩:=src i e he hb;obtain⟨j',v',e0',g1,g2,g3,g4⟩:=src i' e' he' hb';have hj:j=j':=hi.apart j j' _ _ h2 g2 h3 g3 b h4 g4;subst hj;exact WM h.one _ _ _ _ _ h1 g1
 .cases N with
  |zero=>omega
  |succ n=>
   obtain⟨v,hv⟩:=BA hk n (Wac n);exact RA hv
 .intro i hiN;obtain⟨v,hv⟩:=BA hk i hiN;obtain⟨e,he,hl,hver⟩:=hgo _ _ _ hv;have hent:=hi.ent _ _ he;have hV:G.V i=v:=by
   rcases hget.2 i _ (faa (by grind))with⟨j,v',u,S',l,l',h1,h2,h3,h4⟩|⟨S',u,h1,h4⟩|⟨j,l,h1,h2,h3,h4⟩
   .rw[hv]at h1;injection h1 with h1;injection h1 with h5 h1;injection h5 with h5;injection h1 with h1 h6;subst h5;subst h1;exact(hi.ent _ _ h2).1
   .simp_all
   .rw[hv]at h1;injection h1 with h1;injection h1 with h5 h1;injection h5 with h5;injection h1 with h1 h6;subst h5;subst h1;exact(hi.ent _ _ h2).1
  grind[Nb]
 .rintro b _ (hb|⟨hb,_⟩)
  all_goals simp_all
theorem T.tell{N:Nat}(ρ:Io) {c:C}{K:Exit->St->Prop}{s S:St}(hk:Zv ρ N=true) (h:Tell ρ s S) (hT:Tm.T P N c K S):Tm.T P N c K s:=
 T.ghost (λG w a _ hr=>⟨_,(Gy hk h hr).1,(Gy hk h hr).2⟩) hT
variable {P:Program} {N:Nat}
inductive Ex (σ β ρ:Type) where
 |go (s:σ)
 |brk (b:β)
 |ret (v:ρ)
section
variable {σ β ρ:Type}
def Po(step:σ->Option (Ex σ β ρ)):Nat->σ->Option (β⊕ρ)
 |0,_=>none
 |n+1,s=>
  match step s with
  |none=>none
  |some (.go s')=>Po step n s'
  |some (.brk b)=>some (.inl b)
  |some (.ret v)=>some (.inr v)
theorem gy{step:σ->Option (Ex σ β ρ)}:∀{n:Nat}{s:σ}{r},Po step n s=some r->∀k,Po step (n+k) s=some r
 |0,s,r,h,k=>by grind[Po]
 |n+1,s,r,h,k=>by
  rw[show n+1+k=(n+k)+1 by omega];simp only[Po]at h⊢;split
  .simp_all
  .rename_i h';rw[h']at h;exact gy h k
  all_goals simp_all
open Classical in
noncomputable def fa(step:σ->Option (Ex σ β ρ)) (s:σ):Option (β⊕ρ):=
 if h:∃n r,Po step n s=some r then some h.choose_spec.choose else none
theorem CD{step:σ->Option (Ex σ β ρ)}{s:σ}{n:Nat}{r}(h:Po step n s=some r):fa step s=some r:=by
 have hex:∃n r,Po step n s=some r:=⟨n,r,h⟩;unfold fa;rw[dif_pos hex];have h1:=gy hex.choose_spec.choose_spec n
 grind[gy]
theorem PF{step:σ->Option (Ex σ β ρ)}{s:σ}{r}:fa step s=some r↔∃n,Po step n s=some r:=by
 grind[fa,CD]
theorem kl{step:σ->Option (Ex σ β ρ)}{s s':σ}(h:step s=some (.go s')):fa step s=fa step s':=by
 apply Option.ext;intro r;simp only[PF];constructor
 .rintro⟨n,hn⟩
  cases n with
  |zero=>grind[Po]
  |succ n=>grind[Po]
 .rintro⟨n,hn⟩;exact⟨n+1,by grind[Po]⟩
theorem Wf{step:σ->Option (Ex σ β ρ)}{s:σ}{b:β}(h:step s=some (.brk b)):fa step s=some (.inl b):=CD (n:=1) (by grind[Po])
theorem ku{step:σ->Option (Ex σ β ρ)}{s:σ}{v:ρ}(h:step s=some (.ret v)):fa step s=some (.inr v):=CD (n:=1) (by grind[Po])
end
inductive Tells (N:Nat):St->St->Prop
 |refl (s:St):Tells N s s
 |step {s s' S:St} (ρ:Io) (hk:Zv ρ N=true) (h:Tell ρ s s') (t:Tells N s' S):Tells N s S
theorem Tells.one{s S:St}(ρ:Io) (hk:Zv ρ N=true) (h:Tell ρ s S):Tells N s S:=.step ρ hk h (.refl S)
theorem Tells.trans{a b c:St}(h:Tells N a b) (k:Tells N b c):Tells N a c:=by
 induction h with
 |refl=>exact k
 |step ρ hk h t ih=>exact .step ρ hk h (ih k)
theorem T.uE{c:C}{K:Exit->St->Prop}{s S:St}(h:Tells N s S) (hT:Tm.T P N c K S):Tm.T P N c K s:=by
 induction h with
 |refl=>omega
 |step ρ hk h t ih=>grind[T.tell]
def cW(N:Nat) (K:Exit->St->Prop):Prop:=∀s S,Tells N s S->K .normal S->K .normal s
theorem Y9{b:C}{K:Exit->St->Prop}:cW N (KS P N b K):=λs S h k=>T.uE h k
theorem U9{id:Nat}{K:Exit->St->Prop}(h:cW N K):cW N (KB id K):=h
def KL{σ β ρ:Type}(N id:Nat) (K:Exit->St->Prop) (S:σ->St) (B:β->St) (z:Ex σ β ρ) (e:Exit) (s':St):Prop:=
 match e with
 |.normal=>match z with|.go x=>Tells N s' (S x)|_=>False
 |.exit j=>if j=id then(match z with|.brk b=>Tells N s' (B b)|_=>False)else K (.exit j) s'
 |e=>K e s'
section
variable {σ β ρ:Type} {id:Nat} {K:Exit->St->Prop} {S:σ->St} {B:β->St} {s':St}
theorem ZV{x:σ}:KL N id K S B (.go x:Ex σ β ρ) .normal s'=Tells N s' (S x):=gaa rfl rfl
theorem PW{b:β}{j:Nat}:KL N id K S B (.brk b:Ex σ β ρ) (.exit j) s'=if j=id then Tells N s' (B b)else K (.exit j) s':=gaa rfl rfl
theorem RW{z:Ex σ β ρ}:KL N id K S B z .ret s'=K .ret s':=gaa rfl rfl
theorem QW{v:ρ}{j:Nat}:KL N id K S B (.ret v:Ex σ β ρ) (.exit j) s'=if j=id then False else K (.exit j) s':=gaa rfl rfl
theorem X9{z:Ex σ β ρ}:cW N (KL N id K S B z):=by
 intro s S' h k
 cases z with
 |go x=>exact h.trans k
 |_=>exact k.elim
theorem T.fa{x:C}{s:St}(S:σ->St) (B:β->St) (step:σ->Option (Ex σ β ρ)) (x0:σ) {y:β⊕ρ}(hy:Tm.fa step x0=some y) (hs:Tells N s (S x0)) (hst:cW N K)
 (round:∀a z,step a=some z->(∀v,z=.ret v->y=.inr v)->Tm.T P N x (KL N id K S B z) (S a))
 (rest:∀b,y=.inl b->K .normal (B b)):Tm.T P N (.block id (.loop x)) K s:=by
 obtain⟨n,hn⟩:=PF.1 hy;clear hy;refine T.block (T.uW (X:=Nat×σ) (λp s=>Tells N s (S p.2)/\Po step p.1 p.2=some y) (λp=>p.1) (n,x0) ⟨hs,hn⟩ ?_);rintro⟨n,x1⟩ s1 ⟨hs1,hn1⟩;refine T.uE hs1 ?_
 cases n with
 |zero=>grind[Po]
 |succ n=>
  cases hz:step x1 with
  |none=>grind[Po]
  |some z=>
   simp only[Po,hz]at hn1;refine(round x1 z hz (λv hv=>by simp_all)).mono ?_;intro e s' h
   cases e with
   |normal=>
    cases z with
    |go x2=>exact⟨(n,x2),⟨by grind[ZV],hn1⟩,Wac n⟩
    |_=>exact(h:False).elim
   |exit j=>
    simp only[KL]at h⊢;split
    .rename_i hj;rw[if_pos hj]at h
     cases z with
     |brk b=>exact hst _ _ h (rest b (Iaa hn1).symm)
     |_=>simp_all
    simp_all
   |ret=>exact h
   |_=>exact h
end
def KJ{X R:Type}(N:Nat) (K:Exit->St->Prop) (S:X->St) (z:X⊕R) (e:Exit) (s':St):Prop:=
 match e with
 |.normal=>match z with|.inl x=>Tells N s' (S x)|.inr _=>False
 |e=>K e s'
section
variable {X R:Type} {K:Exit->St->Prop} {S:X->St} {s':St}
theorem lF{x:X}:KJ N K S (.inl x:X⊕R) .normal s'=Tells N s' (S x):=gaa rfl rfl
theorem ZR{z:X⊕R}{j:Nat}:KJ N K S z (.exit j) s'=K (.exit j) s':=gaa rfl rfl
theorem OW{z:X⊕R}:KJ N K S z .ret s'=K .ret s':=gaa rfl rfl
theorem W9{z:X⊕R}:cW N (KJ N K S z):=by
 intro s S' h k
 cases z with
 |inl x=>exact h.trans k
 |inr _=>exact k.elim
theorem T.join{a b:C}{s:St}(S:X->St) (z:X⊕R) (ha:Tm.T P N a (KJ N K S z) s) (hb:∀x,z=.inl x->Tm.T P N b K (S x)):Tm.T P N (.seq a b) K s:=by
 refine T.seq (ha.mono ?_);intro e s' h
 cases e with
 |normal=>
  cases z with
  |inl x=>exact T.uE (by grind[lF]) (hb x rfl)
  |inr _=>exact(h:False).elim
 |_=>exact h
end
variable {P:Program}
def Den(P:Program) (k:Nat) (ds:List D) (o:D):Prop:=∀m,CallT P k ds m λd m'=>d=o/\m'=m
theorem nE{m:List Ent}{l r:List D}(h:Sbs [] m l r):la r=true:=by
 induction h<;>simp_all[la,na]
theorem Sbs.v{ρ:Io}{m:List Ent}{x:Value}{l r:List D}(h:Sbs ρ m l r):Sbs ρ m (.v x::l) (.v x::r):=.same rfl h
theorem Sbs.free{ρ:Io}{m:List Ent}:∀{l:List D},la l=true->Sbs ρ m l l
 |[],_=>.nil
 |d::l,h=>by simp only[la,paa]at h;exact .same h.1 (Sbs.free h.2)
theorem Sbs.app{ρ:Io}{m:List Ent}{a b c d:List D}(h1:Sbs ρ m a b) (h2:Sbs ρ m c d):Sbs ρ m (a++c) (b++d):=by
 induction h1 with
 |nil=>exact h2
 |same hf h ih=>exact .same hf ih
 |dead h ih=>exact .dead ih
 |nils h ih=>exact .nils ih
 |adopt i hi h ih=>exact .adopt i hi ih
 |agg ha h _ ih=>exact .agg ha ih
 |tup ha h _ ih=>exact .tup ha ih
 |sl ha h _ ih=>exact .sl ha ih
 |own hi h ih=>exact .own hi ih
 |ref hi h ih=>exact .ref hi ih
 |view hi h ih=>exact .view hi ih
 |mp hi h ih=>exact .mp hi ih
 |Wd hm ho ha h _ ih=>exact .Wd hm ho ha ih
 |fview hm ho hn ha h _ ih=>exact .fview hm ho hn ha ih
 |fref hm ho hx ha h _ ih=>exact .fref hm ho hx ha ih
 |pt ha h _ ih=>exact .pt ha ih
 |fn ha hc h _ _ ih=>exact .fn ha hc ih
 |ifc ha h _ ih=>exact .ifc ha ih
class Fr {α:Type} (e:α->D):Prop where
 h:∀x,na (e x)=true
theorem rz{α:Type}{e:α->D}(h:∀x,na (e x)=true):∀l:List α,la (l.map e)=true
 |[]=>rfl
 |x::l=>by simp[la,h x,rz h l]
theorem Fr.l{α:Type}{e:α->D} [Fr e] (l:List α):la (l.map e)=true:=rz Fr.h l
theorem Fr.s{α:Type}{e:α->D} [Fr e] (S:Nat) (l:List α):na (.sl S (l.map e))=true:=Fr.l (e:=e) l
theorem xp{N:Nat}{s S:St}(h:Tells N s S):∀{G:Gh}{w:World}{a:Act},N<=G.n->Rel G w a s->∃G',Rel G' w a S/\StepN N G w s.m G' w S.m:=by
 induction h with
 |refl s=>grind[StepN.refl]
 |step ρ hk h t ih=>
  intro G w a hN hr;obtain⟨h1,h2⟩:=Gy hk h hr;obtain⟨G',h3,h4⟩:=ih h2.n h1;exact⟨G',h3,h2.trans h4⟩
def DE(rs:List RV) (o:D) (e:Exit) (s:St):Prop:=
 match e with
 |.normal=>∃S,Tells 0 s S/\∃ds,qb S rs=some ds/\Sbs [] S.m [um ds] [o]
 |.ret=>∃S,Tells 0 s S/\∃ds,qb S rs=some ds/\Sbs [] S.m [um ds] [o]
 |_=>False
def fI(r:Option (List D)) (m:List Ent) (o:D):Prop:=∃ds,r=some ds/\Sbs [] m [um ds] [o]
def Fin(m:List Ent) (d o:D):Prop:=Sbs [] m [d] [o]
theorem gk{ds:List D}{m:List Ent}{o:D}:fI (some ds) m o=Fin m (um ds) o:=by simp[fI,Fin]
@[congr] theorem SX{r r':Option (List D)} {m:List Ent} {o:D} (h:r=r'):fI r m o=fI r' m o:=by rw[h]
theorem Rl{rs:List RV}{o:D}{s:St}(h:fI (qb s rs) s.m o):DE rs o .ret s:=by
 obtain⟨ds,h1,h2⟩:=h;exact⟨s,.refl s,ds,h1,h2⟩
theorem V9{rs:List RV}{o:D}:cW 0 (DE rs o):=by
 rintro s S h ⟨S',h1,h2⟩;exact⟨S',h.trans h1,h2⟩
theorem MH{f:FuncId}{ds:List D}{o:D}(hf:la ds=true) (h:CallT P f ds [] λd m'=>Sbs [] m' [d] [o]):Den P f ds o:=by
 refine λm=>⟨h.1,λG w vs hv hi=>?_⟩;have h0:=h.2 (Gh.bare G.F) w vs (VsRel.free (G:=G) (G':=Gh.bare G.F) ⟨λ_ h=>h,λ_ _=>rfl⟩ hf hv) (uz hi.F (hi.gl.bare λ_ h=>h));refine h0.mono ?_;rintro e w' ⟨v,d,m',G',rfl,hR,hvd,hi',hs⟩;obtain⟨-,-,h3⟩:=uF hi hs hi' (λ_ h=>h);obtain⟨g1,g2⟩:=h3 λ_ h=>h;refine⟨v,o,m,_,rfl,⟨rfl,rfl⟩,?_,g1,g2⟩;have hT:=(hR.rel hi' (λi j v h=>by grind)).1 [v] (by simp only[VsRel];simp_all);simp only[VsRel]at hT;obtain⟨u,us,he,h1,_⟩:=hT;injection he with he _;subst he;have hfree:=nE hR;simp only[la,taa]at hfree;refine VRel.free (G:=Nb G' m' []) (G':={ G with F:=λb=>G'.F b\/Xd G' m' b }) ⟨?_,λ_ _=>rfl⟩ hfree h1;rintro b (hb|⟨hb,_⟩)
 all_goals simp_all
theorem Den.of{k:Nat}{F:Fun}{ds:List D}{o:D}(hF:Vt P k=some F) (hname:((P.funcs[k]?).map λfn=>fn.name == "runtime.NumGoroutine")=some false) (hf:la ds=true)
 (h:T P 0 F.code (DE F.results o) ⟨ds++jaa (F.ntmps-ds.length) .dead,[]⟩):Den P k ds o:=by
 refine MH hf (Ry hF hname ?_);refine T.X1 (h.mono ?_);have key:∀(e:Exit) (s:St),(∀s',Nx F.results (λd m'=>Sbs [] m' [d] [o]) e s' = ∃ds,qb s' F.results=some ds/\Sbs [] s'.m [um ds] [o])->(∃S,Tells 0 s S/\∃ds,qb S F.results=some ds/\Sbs [] S.m [um ds] [o])->KK 0 (Nx F.results λd m'=>Sbs [] m' [d] [o]) e s:=by
  intro e s he ⟨S,h1,h2⟩ G w a hN hr;obtain⟨G',h3,h4⟩:=xp h1 hN hr
  grind
 intro e s hs
 cases e with
 |normal=>exact key _ s (λ_=>rfl) hs
 |ret=>exact key _ s (λ_=>rfl) hs
 |_=>exact(hs:False).elim
theorem Qx{k:Nat}{ds ds':List D}{o:D}{m:List Ent}{f:D->List Ent->Prop}(h:Den P k ds' o) (hs:Sbs [] m ds ds') (hfl:flat o=true) (hf:f o m):vf P k ds m f:=by
 refine Cj (m1:=m) (d1:=o) ⟨(h []).1,λG w vs hv hi=>?_⟩ hf;have hv1:=(hs.rel hi (λi j v h=>by grind)).1 vs hv;have hv':VsRel (Gh.bare (Nb G m []).F) w ds' vs:=VsRel.free (G:=Nb G m []) ⟨λ_ h=>h,λ_ _=>rfl⟩ (nE hs) hv1;have h0:=(h []).2 _ w vs hv' (uz (λb hb=>by
  rcases hb with hb|⟨hb,_⟩
  .exact hi.F b hb
  .exact(Xd.lt hi hb).1) (hi.gl.bare λ_ h=>.inl h))
 refine h0.mono ?_;rintro e w' ⟨v,d,m',G',rfl,⟨rfl,-⟩,hvd,hi',hs'⟩;obtain⟨-,h2,-⟩:=uF hi hs' hi' (λ_ h=>.inl h);exact⟨v,d,m,G,rfl,⟨rfl,rfl⟩,hvd.flat hfl,h2.1,h2.2⟩
def idx{α:Type}(l:List α) (i:Int):Option α:=if 0<=i then l[i.toNat]? else none
def app{α:Type}(b:Nat) (l r:List α):Option (List α):=if(l.length+r.length)*b<=2 ^ 47 then some (l++r)else none
def put{α:Type}(l:List α) (i:Int) (x:α):Option (List α):=if 0<=i/\i.toNat<l.length then some (l.set i.toNat x)else none
def GD{α:Type}(b:Nat) (x:α) (n c:Int):Option (List α):=if 0<=n/\n<=c/\c<=2 ^ 62/\c.toNat*b<=2 ^ 48 then some (jaa n.toNat x)else none
def quo(k:IntKind) (a b:Int):Option Int:=if b=0 then none else some (da k (a.tdiv b))
def rem(k:IntKind) (a b:Int):Option Int:=if b=0 then none else some (a.tmod b)
theorem vD{α:Type}{l:List α}{i:Int}{x:α}(h:idx l i=some x):0<=i/\l[i.toNat]?=some x:=by
 grind[idx]
theorem cO{α:Type}{b:Nat}{l r x:List α}(h:app b l r=some x):(l.length+r.length)*b<=140737488355328/\x=l++r:=by
 grind[app]
theorem qQ{α:Type}{l x:List α}{i:Int}{y:α}(h:put l i y=some x):0<=i/\i.toNat<l.length/\x=l.set i.toNat y:=by
 grind[put]
theorem RP{α:Type}{b:Nat}{x:α}{n c:Int}{l:List α}(h:GD b x n c=some l):0<=n/\n<=c/\c<=4611686018427387904/\c.toNat*b<=281474976710656/\l=jaa n.toNat x:=by
 grind[GD]
theorem vm{α β:Type}{o:Option α}{f:α->Option β}{r:β}(h:o.bind f=some r):∃x,o=some x/\f x=some r:=xab.1 h
variable {P:Program} {N:Nat}
def aB(f:D->D->Prop):List D->List D->Prop
 |[],[]=>True
 |d::l,e::r=>f d e/\aB f l r
 |_,_=>False
def Dv(f:D->D->Prop) (a b:List D):Prop:=(a=b/\la a=true)\/aB f a b
def Sq(ρ:Io) (m:List Ent):Nat->D->D->Prop
 |0,_,_=>False
 |n+1,d,e=>
  match e with
  |.dead=>True
  |.v y=>match d with|.v x=>x=y|_=>False
  |.agg b=>match d with|.agg a=>Dv (Sq ρ m n) a b|_=>False
  |.tup b=>match d with|.tup a=>Dv (Sq ρ m n) a b|_=>False
  |.sl S b=>
   match d with
   |.v x=>x=.slice none 0 0/\b=[]
   |.sl S' a=>S'=S/\Dv (Sq ρ m n) a b
   |.own j v=>
    match m[j]? with
    |some (.live S' v' a)=>S'=S/\v'=v/\oy ρ j=true/\Dv (Sq ρ m n) a b
    |_=>False
   |.view j v lo k=>
    match m[j]? with
    |some (.live S' v' a)=>S'=S/\v'=v/\oy ρ j=true/\lo+k<=a.length/\Dv (Sq ρ m n) ((a.drop lo).take k) b
    |_=>False
   |_=>False
  |.own i u=>
   match d with
   |.own j v=>ρ[i]?=some (some j,v,u)
   |.v x=>x=.slice none 0 0/\∃S,ρ[i]?=some (none,S,u)
   |_=>False
  |.ref i u x s=>match d with|.ref j v x' s'=>ρ[i]?=some (some j,v,u)/\x'=x/\s'=s|_=>False
  |.view i u lo k=>match d with|.view j v lo' k'=>ρ[i]?=some (some j,v,u)/\lo'=lo/\k'=k|_=>False
  |.pt e'=>
   match d with
   |.pt d'=>(d'=e'/\na d'=true)\/Sq ρ m n d' e'
   |.ref j v x s=>
    match m[j]? with
    |some (.live _ v' a)=>v'=v/\s=0/\oy ρ j=true/\(match a[x]? with|some d'=>(d'=e'/\na d'=true)\/Sq ρ m n d' e'|none=>False)
    |_=>False
   |_=>False
  |.fn f b d'=>match d with|.fn f' a c=>f'=f/\Dv (Sq ρ m n) a b/\Dv (Sq ρ m n) c d'|_=>False
  |.mp i=>match d with|.mp j=>ρ[i]?=some (some j,0,0)|_=>False
  |.ifc t e'=>match d with|.ifc t' d'=>t'=t/\((d'=e'/\na d'=true)\/Sq ρ m n d' e')|_=>False
theorem Pw{ρ:Io}{m:List Ent}{f:D->D->Prop}(hf:∀d e l r,f d e->Sbs ρ m l r->Sbs ρ m (d::l) (e::r)):∀{a b:List D},aB f a b->Sbs ρ m a b
 |[],[],_=>.nil
 |d::l,e::r,h=>hf d e l r h.1 (Pw hf h.2)
 |[],_::_,h=>h.elim
 |_::_,[],h=>h.elim
theorem vt{ρ:Io}{m:List Ent}{f:D->D->Prop}(hf:∀d e l r,f d e->Sbs ρ m l r->Sbs ρ m (d::l) (e::r)) {a b:List D}(h:Dv f a b):Sbs ρ m a b:=by
 rcases h with⟨rfl,h⟩|h
 all_goals grind[Sbs.free,Pw]
theorem Zu{ρ:Io}{m:List Ent}:∀(n:Nat) (d e:D) (l r:List D),Sq ρ m n d e->Sbs ρ m l r->Sbs ρ m (d::l) (e::r)
 |0,d,e,l,r,h,_=>h.elim
 |n+1,d,e,l,r,h,hs=>by
  have ih:=Zu (ρ:=ρ) (m:=m) n;have one:∀d' e',((d'=e'/\na d'=true)\/Sq ρ m n d' e')->Sbs ρ m [d'] [e']:=by
   rintro d' e' (⟨rfl,h⟩|h)
   .exact .same h .nil
   .exact ih _ _ _ _ h .nil
  cases e with
  |dead=>exact .dead hs
  |v y=>cases d<;>simp only[Sq]at h;subst h;exact .v hs
  |agg b=>cases d<;>simp only[Sq]at h;exact .agg (vt ih h) hs
  |tup b=>cases d<;>simp only[Sq]at h;exact .tup (vt ih h) hs
  |sl S b=>
   cases d with
   |v x=>simp only[Sq]at h;obtain⟨rfl,rfl⟩:=h;exact .nils hs
   |sl S' a=>simp only[Sq]at h;obtain⟨rfl,h⟩:=h;exact .sl (vt ih h) hs
   |own j v=>
    simp only[Sq]at h;split at h
    .rename_i S' v' a hm;obtain⟨rfl,rfl,ho,h⟩:=h;exact .Wd hm ho (vt ih h) hs
    simp_all
   |view j v lo k=>
    simp only[Sq]at h;split at h
    .rename_i S' v' a hm;obtain⟨rfl,rfl,ho,hl,h⟩:=h;exact .fview hm ho hl (vt ih h) hs
    simp_all
   |_=>simp only[Sq]at h
  |own i u=>
   cases d with
   |own j v=>simp only[Sq]at h;exact .own h hs
   |v x=>simp only[Sq]at h;obtain⟨rfl,S,h⟩:=h;exact .adopt i h hs
   |_=>simp only[Sq]at h
  |ref i u x s=>cases d<;>simp only[Sq]at h;obtain⟨h,rfl,rfl⟩:=h;exact .ref h hs
  |view i u lo k=>cases d<;>simp only[Sq]at h;obtain⟨h,rfl,rfl⟩:=h;exact .view h hs
  |pt e'=>
   cases d with
   |pt d'=>simp only[Sq]at h;exact .pt (one _ _ h) hs
   |ref j v x s=>
    simp only[Sq]at h;split at h
    .rename_i S' v' a hm;obtain⟨rfl,rfl,ho,h⟩:=h;split at h
     .rename_i d' hd;exact .fref hm ho hd (one _ _ h) hs
     simp_all
    simp_all
   |_=>simp only[Sq]at h
  |fn f b d'=>cases d<;>simp only[Sq]at h;obtain⟨rfl,h1,h2⟩:=h;exact .fn (vt ih h1) (vt ih h2) hs
  |mp i=>cases d<;>simp only[Sq]at h;exact .mp h hs
  |ifc t e'=>cases d<;>simp only[Sq]at h;obtain⟨rfl,h⟩:=h;exact .ifc (one _ _ h) hs
def ZA(ρ:Io) (m:List Ent):Io->List Ent->Prop
 |[],[]=>True
 |(some j,v,u)::os,.live S u' b::es=>u=u'/\(match m[j]? with|some (.live S' v' a)=>S'=S/\v'=v/\Dv (Sq ρ m 9) a b|_=>False)/\ZA ρ m os es
 |(none,S,u)::os,.live S' u' b::es=>S=S'/\u=u'/\b=[]/\ZA ρ m os es
 |(some j,v,u)::os,.mp b::es=>v=0/\u=0/\(match m[j]? with|some (.mp a)=>a=b/\TS b=true|_=>False)/\ZA ρ m os es
 |_,_=>False
theorem mC{ρ:Io}{m:List Ent}:∀{os:Io}{es:List Ent},ZA ρ m os es->Ets ρ m os es
 |[],[],_=>.nil
 |(some j,v,u)::os,.live S u' b::es,h=>by
  simp only[ZA]at h;obtain⟨rfl,h1,h2⟩:=h;split at h1
  .rename_i S' v' a hm;obtain⟨rfl,rfl,h1⟩:=h1;exact .live hm (vt (Zu 9) h1) (mC h2)
  simp_all
 |(none,S,u)::os,.live S' u' b::es,h=>by
  simp only[ZA]at h;obtain⟨rfl,rfl,rfl,h2⟩:=h;exact .new (mC h2)
 |[],_::_,h=>by simp[ZA]at h
 |_::_,[],h=>by simp[ZA]at h
 |(some j,v,u)::os,.mp b::es,h=>by
  simp only[ZA]at h;obtain⟨rfl,rfl,h1,h2⟩:=h;split at h1
  .rename_i a hm;obtain⟨rfl,h1⟩:=h1;exact .mp hm h1 (mC h2)
  simp_all
 |(some j,v,u)::os,.gone::es,h=>by simp[ZA]at h
 |(none,S,u)::os,.mp _::es,h=>by simp[ZA]at h
 |(none,S,u)::os,.gone::es,h=>by simp[ZA]at h
theorem Tells.q(ρ:Io) {s S:St}(hk:Zv ρ N=true) (h3:(ρ.filterMap (·.1)).Nodup) (h:aB (Sq ρ s.m 9) s.t S.t/\ZA ρ s.m ρ S.m):Tells N s S:=
 .one ρ hk ⟨Pw (Zu 9) h.1,mC h.2,h3⟩
section
variable {ρ:Io} {m:List Ent} {n:Nat} {d e:D} {a b c l r:List D} {x y:Value} {S S' i j u v k lo q s:Nat}
theorem nV{f:D->D->Prop}:aB f [] []=True:=gaa rfl rfl
theorem nR{f:D->D->Prop}:aB f (d::l) (e::r)=(f d e/\aB f l r):=gaa rfl rfl
theorem Zh{f:D->D->Prop}(h:la a=true):Dv f a a=True:=by simp[Dv,h]
theorem P9{f:D->D->Prop}:Dv f (d::l) (e::r)=(((d::l=e::r)/\la (d::l)=true)\/(f d e/\aB f l r)):=gaa rfl rfl
theorem pV{f:D->D->Prop}:Dv f [] []=True:=by simp[Dv,la]
theorem qV:Sq ρ m (n+1) d .dead=True:=gaa rfl rfl
theorem sq_v:Sq ρ m (n+1) (.v x) (.v y)=(x=y):=gaa rfl rfl
theorem A0:Sq ρ m (n+1) (.agg a) (.agg b)=Dv (Sq ρ m n) a b:=gaa rfl rfl
theorem D0:Sq ρ m (n+1) (.tup a) (.tup b)=Dv (Sq ρ m n) a b:=gaa rfl rfl
theorem uV:Sq ρ m (n+1) (.v x) (.sl S b)=(x=.slice none 0 0/\b=[]):=gaa rfl rfl
theorem T9:Sq ρ m (n+1) (.sl S' a) (.sl S b)=(S'=S/\Dv (Sq ρ m n) a b):=gaa rfl rfl
theorem tV:Sq ρ m (n+1) (.own j v) (.sl S b)=(match m[j]? with|some (.live S' v' a)=>S'=S/\v'=v/\oy ρ j=true/\Dv (Sq ρ m n) a b|_=>False):=gaa rfl rfl
theorem pR:Sq ρ m (n+1) (.view j v lo k) (.sl S b)=(match m[j]? with|some (.live S' v' a)=>S'=S/\v'=v/\oy ρ j=true/\lo+k<=a.length/\Dv (Sq ρ m n) ((a.drop lo).take k) b|_=>False):=gaa rfl rfl
theorem B0:Sq ρ m (n+1) (.own j v) (.own i u)=(ρ[i]?=some (some j,v,u)):=gaa rfl rfl
theorem oR:Sq ρ m (n+1) (.v x) (.own i u)=(x=.slice none 0 0/\∃S,ρ[i]?=some (none,S,u)):=gaa rfl rfl
theorem C0:Sq ρ m (n+1) (.ref j v q s) (.ref i u k lo)=(ρ[i]?=some (some j,v,u)/\q=k/\s=lo):=gaa rfl rfl
theorem vV{lo' k':Nat}:Sq ρ m (n+1) (.view j v lo' k') (.view i u lo k)=(ρ[i]?=some (some j,v,u)/\lo'=lo/\k'=k):=gaa rfl rfl
theorem S9:Sq ρ m (n+1) (.pt d) (.pt e)=((d=e/\na d=true)\/Sq ρ m n d e):=gaa rfl rfl
theorem sV:Sq ρ m (n+1) (.ref j v q s) (.pt e)=(match m[j]? with
 |some (.live _ v' a)=>v'=v/\s=0/\oy ρ j=true/\(match a[q]? with|some d'=>(d'=e/\na d'=true)\/Sq ρ m n d' e|none=>False)
 |_=>False):=gaa rfl rfl
theorem Q9{f f':FuncId}{d':List D}:Sq ρ m (n+1) (.fn f' a c) (.fn f b d')=(f'=f/\Dv (Sq ρ m n) a b/\Dv (Sq ρ m n) c d'):=gaa rfl rfl
theorem WX:ZA ρ m [] []=True:=gaa rfl rfl
theorem OS{os:Io}{es:List Ent}{u':Nat}:ZA ρ m ((some j,v,u)::os) (.live S u' b::es)=(u=u'/\(match m[j]? with|some (.live S' v' a)=>S'=S/\v'=v/\Dv (Sq ρ m 9) a b|_=>False)/\ZA ρ m os es):=by simp only[ZA]
theorem VX{os:Io}{es:List Ent}{u':Nat}:ZA ρ m ((none,S,u)::os) (.live S' u' b::es)=(S=S'/\u=u'/\b=[]/\ZA ρ m os es):=by simp only[ZA]
theorem R9:Sq ρ m (n+1) (.mp j) (.mp i)=(ρ[i]?=some (some j,0,0)):=gaa rfl rfl
theorem W2{os:Io}{es:List Ent}{b:List (Value×D)}:ZA ρ m ((some j,v,u)::os) (.mp b::es)=(v=0/\u=0/\(match m[j]? with|some (.mp a)=>a=b/\TS b=true|_=>False)/\ZA ρ m os es):=by simp only[ZA]
theorem US:TS []=true:=gaa rfl rfl
theorem kQ:oy [] j=true:=gaa rfl rfl
theorem bN{o:Option Nat×Nat×Nat}:oy (o::ρ) j=((match o.1 with|some k=>k !=j|none=>true)&&oy ρ j):=gaa rfl rfl
end
theorem JF{m:List Ent}{d o:D}(h:Sq [] m 9 d o):Fin m d o:=Zu 9 d o [] [] h .nil
theorem mE{G:Gh}{w:World}{l r:List D}(h:Sbs [] [] l r):(∀us,VsRel G w l us->VsRel G w r us)/\(∀b S off,Qa G w b S l off->Qa G w b S r off):=by
 have both:∀{d e:D} {l r:List D},(∀u,VRel G w d u->VRel G w e u)->
  ((∀us,VsRel G w l us->VsRel G w r us)/\(∀b S off,Qa G w b S l off->Qa G w b S r off))->
  ((∀us,VsRel G w (d::l) us->VsRel G w (e::r) us)/\(∀b S off,Qa G w b S (d::l) off->Qa G w b S (e::r) off)):=by
  intro d e l r h1 h2;refine⟨λus hv=>?_,λb S off hv=>?_⟩
  .simp only[VsRel]at hv⊢
   grind
  .simp only[Qa]at hv⊢
   grind
 have first:∀{d e:D},(∀us,VsRel G w [d] us->VsRel G w [e] us)->∀u,VRel G w d u->VRel G w e u:=by
  intro d e h u hu;have:=h [u] (by simp only[VsRel];simp_all);simp only[VsRel]at this
  simp_all
 induction h with
 |nil=>simp
 |same hf h ih=>exact both (λu hu=>hu) ih
 |dead h ih=>exact both (λu _=>by simp[VRel]) ih
 |nils h ih=>exact both (λu hu=>by simp only[VRel]at hu⊢;grind) ih
 |agg ha h iha ih=>
  refine both (λu hu=>?_) ih;simp only[VRel]at hu⊢
  grind
 |tup ha h iha ih=>
  refine both (λu hu=>?_) ih;simp only[VRel]at hu⊢
  grind
 |sl ha h iha ih=>
  refine both (λu hu=>?_) ih;simp only[VRel]at hu⊢;obtain⟨a,n,cap,rfl,hn,hc,g⟩:=hu;refine⟨a,n,cap,rfl,by rw[←ha.length];omega,hc,?_⟩;rcases g with rfl|⟨b,off,rfl,hF,hr⟩
  .exact .inl (Caa ha.length.symm)
  grind
 |pt ha h iha ih=>
  refine both (λu hu=>?_) ih;simp only[VRel]at hu⊢
  grind
 |fn ha hc h iha ihc ih=>
  refine both (λu hu=>?_) ih;simp only[VRel]at hu⊢
  grind
 |ifc ha h iha ih=>
  refine both (λu hu=>?_) ih;simp only[VRel]at hu⊢
  grind
 |adopt i hi=>simp at hi
 |own hi=>simp at hi
 |ref hi=>simp at hi
 |view hi=>simp at hi
 |mp hi=>simp at hi
 |Wd hm=>simp at hm
 |fview hm=>simp at hm
 |fref hm=>simp at hm
theorem tG{k:Nat}{ds ds':List D}{o:D}{m:List Ent}{f:D->List Ent->Prop}(h:Den P k ds' o) (hf:f o m) (hs:aB (Sq [] [] 9) ds ds'):vf P k ds m f:=
 Cj (m1:=m) (d1:=o) ⟨(h m).1,λG w vs hv hi=>(h m).2 G w vs ((mE (Pw (Zu 9) hs)).1 vs hv) hi⟩ hf
theorem CC{k:Nat}{ds ds':List D}{o:D}{m:List Ent}{f:D->List Ent->Prop}(h:Den P k ds' o) (hf:f o m) (hfl:flat o=true) (hs:aB (Sq [] m 9) ds ds'):vf P k ds m f:=
 Qx h (Pw (Zu 9) hs) hfl hf
section
variable {K:Exit->St->Prop} {s:St} {l:List RI} {a b:C} {c:Operand} {t:Bool} {id q:Nat}
theorem T.rg(h:Ug P l (K .normal) s):Tm.T P N (.mJ l) K s:=T.mJ (Wr h)
theorem T.cd(ht:s.ev c=.v (.bool t)) (h:gP (t=true) (Tm.T P N a K s) (Tm.T P N b K s)):Tm.T P N (.cond c a b) K s:=
 T.cond ht (λe=>h.1 e) (λe=>h.2 (by grind))
theorem T.bk(h:Tm.T P N a (KB id K) s):Tm.T P N (.block id a) K s:=T.block (h.mono λe s' h'=>by cases e<;>exact h')
theorem T.sr(h:Ug P l (KS P N b K .normal) s):Tm.T P N (.seq (.mJ l) b) K s:=T.qx (T.rg h)
theorem gP.ite{p q Y N:Prop} [Decidable q] {α:Type}{A B:Option α}{r:α}(h:(if q then A else B)=some r) (hpq:p↔q) (h1:q->A=some r->Y) (h2:¬q->B=some r->N):gP p Y N:=by
 by_cases c:q
 .rw[if_pos c]at h;exact⟨λ_=>h1 c h,λhp=>(hp (hpq.2 c)).elim⟩
 .rw[if_neg c]at h;exact⟨λhp=>(c (hpq.1 hp)).elim,λ_=>h2 c h⟩
end
def ds:Nat->List D->List D
 |0,l=>l
 |n+1,l=>.dead::ds n l
theorem Hw{l:List D}:ds 0 l=l:=gaa rfl rfl
theorem Iu{n:Nat}{l:List D}:ds (n+1) l=.dead::ds n l:=gaa rfl rfl
variable {P:Program} {N:Nat}
def tW(ok:Bool) (z:D) (m:List Ent) (o:Option D):Option (D×List Ent):=
 match o with
 |some d=>some (if ok then .tup [d,.v (.bool true)]else d,m)
 |none=>some (if ok then .tup [z,.v (.bool false)]else z,m)
def mlk{β:Type}:List (Int×β)->Int->Option β
 |[],_=>none
 |(q,x)::l,k=>if k=q then some x else mlk l k
def em{β:Type}(e:β->D) (l:List (Int×β)):List (Value×D):=l.map λp=>(.int .i64 p.1,e p.2)
theorem jL{β:Type}{e:β->D}{k:Int}:∀{l:List (Int×β)},Fx (.int .i64 k) (em e l)=(mlk l k).map e
 |[]=>gaa rfl rfl
 |(q,x)::l=>by
  have ih:=jL (e:=e) (k:=k) (l:=l);simp only[em]at ih;simp only[em,Maa,Fx,aw,mlk,beq_iff_eq,ih];split<;>rfl
theorem aX{β:Type}{e:β->D}{l:List (Int×β)}:((em e l).all λq=>isKey 0 q.1)=true:=by
 simp[em,isKey]
theorem RX{β:Type}{e:β->D}:em e []=[]:=gaa rfl rfl
theorem QX{β:Type}{e:β->D}{l:List (Int×β)}:(em e l).length=l.length:=by simp[em]
theorem bY{β:Type}{e:β->D} [Fr e] {l:List (Int×β)}:TS (em e l)=true:=by
 simp only[TS,em,List.all_map,Uaa];exact λx _=>Fr.h x.2
theorem uT{k:Int}:isKey 0 (.int .i64 k)=true:=gaa rfl rfl
def Cs(b:ByteArray) (i:Int):Option Int:=if h:0<=i/\i.toNat<b.size then some ((b[i.toNat]'h.2).toNat:Int)else none
def Lr:Nat->List D->Bool
 |0,[]=>true
 |n+1,_::l=>Lr n l
 |_,_=>false
theorem ep:∀{n:Nat}{l:List D},Lr n l=true↔l.length=n
 |0,[]=>by simp[Lr]
 |n+1,_::l=>by simp[Lr,ep (n:=n) (l:=l)]
 |0,_::_=>by simp[Lr]
 |_+1,[]=>by simp[Lr]
def Wv:Nat->Nat->List D->Bool
 |0,0,_=>true
 |0,n+1,_::l=>Wv 0 n l
 |o+1,n,_::l=>Wv o n l
 |_,_,[]=>false
theorem Xp:∀{o n:Nat}{l:List D},Wv o n l=true↔o+n<=l.length
 |0,0,l=>by simp[Wv]
 |0,n+1,_::l=>by simp[Wv,Xp (o:=0) (n:=n) (l:=l)]
 |o+1,n,_::l=>by simp[Wv,Xp (o:=o) (n:=n) (l:=l)];omega
 |0,n+1,[]=>by simp[Wv]
 |o+1,n,[]=>by simp[Wv]
theorem cZ:Lr 0 []=true:=gaa rfl rfl
theorem CT{n:Nat}{d:D}{l:List D}:Lr (n+1) (d::l)=Lr n l:=gaa rfl rfl
theorem h2_z{l:List D}:Wv 0 0 l=true:=by cases l<;>rfl
theorem h2_n{n:Nat}{d:D}{l:List D}:Wv 0 (n+1) (d::l)=Wv 0 n l:=gaa rfl rfl
theorem h2_o{o n:Nat}{d:D}{l:List D}:Wv (o+1) n (d::l)=Wv o n l:=by cases n<;>rfl
theorem q_mv:type_of% @ia.eq_1:=by intros;exact gaa rfl rfl
theorem FZ:type_of% @ia.eq_2:=by intros;exact gaa rfl rfl
theorem y9:type_of% @ia.eq_3:=by intros;exact gaa rfl rfl
theorem w9:type_of% @ia.eq_4:=by intros;exact gaa rfl rfl
theorem q_un:type_of% @ia.eq_5:=by intros;exact gaa rfl rfl
theorem zZ:type_of% @ia.eq_6:=by intros;exact gaa rfl rfl
theorem pU:type_of% @ia.eq_7:=by intros;exact gaa rfl rfl
theorem A9{s:St}{S:Nat}{x:Operand}:ia s (.box S x)=if(s.ev x).ok=true/\Lr S (s.ev x).cells=true then some (.ref s.m.length 0 0 0,s.m++[.live S 0 [s.ev x]])else none:=by simp only[ep,Xp];rfl
theorem qU:type_of% @ia.eq_9:=by intros;exact gaa rfl rfl
theorem sQ:type_of% @ia.eq_10:=by intros;exact gaa rfl rfl
theorem BZ{s:St}{A:Bool}{n:Nat}{x:Operand}:ia s (.load A n x) =
 match s.ev x with
 |.pt d=>
  match A,d with
  |true,.agg l=>if Lr n l=true then some (d,s.m)else none
  |true,_=>none
  |false,.agg _=>none
  |false,d=>if d.ok=true then some (d,s.m)else none
 |.ref id Ja idx sub=>
  match s.m[id]? with
  |some (.live _ ver' l)=>if ver'=Ja then(l[idx]?).bind λd=>if d.ok=true then(part A n sub d.cells).map λr=>(r,s.m)else none else none
  |_=>none
 |_=>none:=by simp only[ep,Xp];rfl
theorem BU{s:St}{n:Nat}{x:Operand}{y:Operand}:ia s (.store n x y) =
 match s.ev x with
 |.ref id Ja idx sub=>
  match s.m[id]? with
  |some (.live S ver' l)=>
   if ver'=Ja/\(s.ev y).ok=true/\Lr n (s.ev y).cells=true then
    (l[idx]?).bind λd=>if d.ok=true/\0<n/\Wv sub n d.cells=true then some (.dead,s.m.set id (.live S ver' (l.set idx (d.oe sub (s.ev y).cells))))else none
   else none
  |_=>none
 |_=>none:=by simp only[ep,Xp];rfl
theorem EZ:type_of% @ia.eq_13:=by intros;exact gaa rfl rfl
theorem AU:type_of% @ia.eq_14:=by intros;exact gaa rfl rfl
theorem rU:type_of% @ia.eq_15:=by intros;exact gaa rfl rfl
theorem sU:type_of% @ia.eq_16:=by intros;exact gaa rfl rfl
theorem tU:type_of% @ia.eq_17:=by intros;exact gaa rfl rfl
theorem oU:type_of% @ia.eq_18:=by intros;exact gaa rfl rfl
theorem uU:type_of% @ia.eq_19:=by intros;exact gaa rfl rfl
theorem jN:type_of% @ia.eq_20:=by intros;exact gaa rfl rfl
theorem E9:type_of% @ia.eq_21:=by intros;exact gaa rfl rfl
theorem HZ:type_of% @ia.eq_22:=by intros;exact gaa rfl rfl
theorem rQ:type_of% @ia.eq_23:=by intros;exact gaa rfl rfl
theorem kN:type_of% @ia.eq_24:=by intros;exact gaa rfl rfl
theorem tQ:type_of% @ia.eq_25:=by intros;exact gaa rfl rfl
theorem AZ:type_of% @ia.eq_26:=by intros;exact gaa rfl rfl
theorem q_mm:type_of% @ia.eq_27:=by intros;exact gaa rfl rfl
theorem B9:type_of% @ia.eq_28:=by intros;exact gaa rfl rfl
theorem IZ:type_of% @ia.eq_29:=by intros;exact gaa rfl rfl
theorem GZ{s:St}{x i:Operand}:ia s (.Cs x i)=(match s.ev x,s.ev i with
 |.v (.string b),.v (.int _ k)=>(Cs b k).map λn=>(D.v (.int .u8 n),s.m)
 |_,_=>none):=by
 simp only[ia];generalize s.ev x=a;generalize s.ev i=c;split
 .rename_i b k' k;by_cases h:0<=k/\k.toNat<b.size<;>simp[Cs,h]
 .rename_i hx;split
  .exact(hx _ _ _ rfl rfl).elim
  .rfl
theorem uQ:type_of% @ia.eq_31:=by intros;exact gaa rfl rfl
theorem xU:type_of% @ia.eq_32:=by intros;exact gaa rfl rfl
theorem yU{s:St}{K:Nat}{ok:Bool}{z:D}{x:Operand}{k:Operand}:ia s (.mlook K ok z x k) =
 match s.ev k with
 |.v kv=>
  if isKey K kv=true then
   match s.ev x with
   |.v (.map none)=>some (if ok then .tup [z,.v (.bool false)]else z,s.m)
   |.mp id=>
    match s.m[id]? with
    |some (.mp es)=>
     if(es.all λe=>isKey K e.1)=true then
      tW ok z s.m (Fx kv es)
     else none
    |_=>none
   |_=>none
  else none
 |_=>none:=by
 simp only[ia,tW];rfl
theorem DZ:type_of% @ia.eq_34:=by intros;exact gaa rfl rfl
theorem CZ:type_of% @ia.eq_35:=by intros;exact gaa rfl rfl
theorem CU:type_of% @ia.eq_36:=by intros;exact gaa rfl rfl
theorem wU:type_of% @ia.eq_37:=by intros;exact gaa rfl rfl
theorem lN:type_of% @ia.eq_38:=by intros;exact gaa rfl rfl
theorem C9:type_of% @ia.eq_39:=by intros;exact gaa rfl rfl
theorem yZ:type_of% @ia.eq_40:=by intros;exact gaa rfl rfl
theorem zU:type_of% @ia.eq_41:=by intros;exact gaa rfl rfl
theorem vU:type_of% @ia.eq_42:=by intros;exact gaa rfl rfl
def gQ(p:Prop) (R1:St->Prop) (s1:St) (R2:St->Prop) (s2:St):Prop:=gP p (R1 s1) (R2 s2)
theorem gQ_T{R1 R2:St->Prop}{s1 s2:St}:gQ True R1 s1 R2 s2=R1 s1:=n3
theorem gQ_F{R1 R2:St->Prop}{s1 s2:St}:gQ False R1 s1 R2 s2=R2 s2:=Z2
def gD(d:D) (b:Bool) (R1:St->Prop) (s1:St) (R2:St->Prop) (s2 s0:St):Prop:=
 match d with
 |.v (.bool c)=>gQ (c=b) R1 s1 R2 s2
 |.v _=>R2 s0
 |_=>False
theorem VS{c b:Bool}{R1 R2:St->Prop}{s1 s2 s0:St}:gD (.v (.bool c)) b R1 s1 R2 s2 s0=gQ (c=b) R1 s1 R2 s2:=gaa rfl rfl
theorem WS{b:Bool}{R1 R2:St->Prop}{s1 s2 s0:St}:gD (.v (.tuple #[])) b R1 s1 R2 s2 s0=R2 s0:=gaa rfl rfl
theorem mP{b:Bool}{R1 R2:St->Prop}{s1 s2 s0:St}:gD (.v undef) b R1 s1 R2 s2 s0=R2 s0:=gaa rfl rfl
section
variable {t:List D} {m:List Ent} {i:Nat} {b:Bool} {dst:Option Tmp} {l:List RI} {K:St->Prop} {ins:I} {k q:Nat} {args:List Operand}
theorem SN:Ug P (.op dst (some (i,b)) ins::l) K ⟨t,m⟩=gD (t.getD i .dead) b (Ug P (.op dst none ins::l) K) ⟨t.set i (.v (.bool b)),m⟩ (Ug P l K) (St.put ⟨t.set i (.v (.bool (!b))),m⟩ dst (.v undef)) (St.put ⟨t,m⟩ dst (.v undef)):=by
 rw[TN];simp only[gate,gD,gQ,Fv,NK]
 cases h:t.getD i .dead with
 |v x=>cases x<;>simp[gP]<;>cases b<;>simp
 |_=>rfl
theorem oJ:Ug P (.call dst (some (i,b)) (.func k) args::l) K ⟨t,m⟩=gD (t.getD i .dead) b (Ug P (.call dst none (.func k) args::l) K) ⟨t.set i (.v (.bool b)),m⟩ (Ug P l K) (St.put ⟨t.set i (.v (.bool (!b))),m⟩ dst (.v undef)) (St.put ⟨t,m⟩ dst (.v undef)):=by
 rw[BH];simp only[gate,gD,gQ,Fv,yC]
 cases h:t.getD i .dead with
 |v x=>cases x<;>simp[gP]<;>cases b<;>simp
 |_=>rfl
theorem nP{t:List D}{i:Nat}{b c:Bool}(h:t.getD i .dead=.v (.bool c)) {Y N:List D->Prop}:gP (c=b) (Y t) (N t)=gP (c=b) (Y (t.set i (.v (.bool b)))) (N (t.set i (.v (.bool (!b))))):=by
 have hs:=Vz h (by simp);by_cases hc:c=b
 .subst hc;rw[hs];simp[gP]
 .have:(!b)=c:=by cases b<;>cases c<;>simp_all
  rw[this,hs];simp[gP,hc]
theorem pJ:Ug P (.call dst none (.tmp i) args::l) K ⟨t,m⟩=(match t.getD i .dead with|.fn k first caps=>vf P k (first++args.map (St.ev ⟨t,m⟩)++caps) m (KO (Ug P l K) ⟨t,m⟩ dst)|_=>False):=by
 simp only[Ug,gate,St.ec,St.ev]
 first|done|(cases t.getD i .dead<;>rfl)
theorem VR:Eu P (q+1) (.op dst (some (i,b)) ins::l) K ⟨t,m⟩=gD (t.getD i .dead) b (Eu P (q+1) (.op dst none ins::l) K) ⟨t.set i (.v (.bool b)),m⟩ (Eu P q l K) (St.put ⟨t.set i (.v (.bool (!b))),m⟩ dst (.v undef)) (St.put ⟨t,m⟩ dst (.v undef)):=by
 rw[WR];simp only[gate,gD,gQ,NN]
 cases h:t.getD i .dead with
 |v x=>
  cases x with
  |bool c=>exact nP h (Y:=λt=>Ct (ia ⟨t,m⟩ ins) (KO (Eu P q l K) ⟨t,m⟩ dst)) (N:=λt=>Eu P q l K (St.put ⟨t,m⟩ dst (.v undef)))
  |_=>cases b<;>simp[gP]
 |_=>rfl
theorem OL:Eu P (q+1) (.call dst (some (i,b)) (.func k) args::l) K ⟨t,m⟩=gD (t.getD i .dead) b (Eu P (q+1) (.call dst none (.func k) args::l) K) ⟨t.set i (.v (.bool b)),m⟩ (Eu P q l K) (St.put ⟨t.set i (.v (.bool (!b))),m⟩ dst (.v undef)) (St.put ⟨t,m⟩ dst (.v undef)):=by
 rw[nJ];simp only[gate,gD,gQ,kF]
 cases h:t.getD i .dead with
 |v x=>
  cases x with
  |bool c=>exact nP h (Y:=λt=>yF P k (args.map (St.ev ⟨t,m⟩)) (Eu P q l K) ⟨t,m⟩ dst) (N:=λt=>Eu P q l K (St.put ⟨t,m⟩ dst (.v undef)))
  |_=>cases b<;>simp[gP]
 |_=>rfl
end
section
variable {t:List D} {m m':List Ent} {i:Nat} {x:Value} {f:FuncId} {g:Nat} {b c:Bool} {d d':D} {k n:Nat} {R:St->Prop} {o:Operand} {s:St}
theorem E0:St.ev ⟨t,m⟩ (.tmp i)=t.getD i .dead:=gaa rfl rfl
theorem qR:St.ev s (.const x)=.v x:=gaa rfl rfl
theorem xV:St.ev s (.func f)=.fn f [] []:=gaa rfl rfl
theorem iN:St.put ⟨t,m⟩ (some i) d=⟨t.set i d,m⟩:=gaa rfl rfl
theorem dN:St.put s none d=s:=gaa rfl rfl
theorem bS:KO R ⟨t,m⟩ (some i) d m'=R ⟨t.set i d,m'⟩:=gaa rfl rfl
theorem aS:KO R ⟨t,m⟩ none d m'=R ⟨t,m'⟩:=gaa rfl rfl
theorem IM:gate ⟨t,m⟩ (some (i,b))=(match t.getD i .dead with|.v (.bool c)=>some (some (c,b))|.v _=>some (some (!b,b))|_=>none):=gaa rfl rfl
theorem nQ:Fv ⟨t,m⟩ (some (i,b)) c=(match t.getD i .dead with|.v (.bool _)=>⟨t.set i (.v (.bool c)),m⟩|_=>⟨t,m⟩):=gaa rfl rfl
theorem eM{l:List D}:D.cells (.agg l)=l:=gaa rfl rfl
theorem pS:D.cells (.v x)=[.v x]:=gaa rfl rfl
theorem wO{l:List D}:D.cells (.sl n l)=[.sl n l]:=gaa rfl rfl
theorem fM:D.cells (.own i k)=[.own i k]:=gaa rfl rfl
theorem yJ{a b:Nat}:D.cells (.view i k a b)=[.view i k a b]:=gaa rfl rfl
theorem gM{a b:Nat}:D.cells (.ref i k a b)=[.ref i k a b]:=gaa rfl rfl
theorem vO:D.cells (.pt d)=[.pt d]:=gaa rfl rfl
theorem sO{a b:List D}:D.cells (.fn f a b)=[.fn f a b]:=gaa rfl rfl
theorem uO:D.cells (.mp i)=[.mp i]:=gaa rfl rfl
theorem sZ{l:List D}:D.ok (.agg l)=true:=gaa rfl rfl
theorem ok_v:D.ok (.v x)=one x:=gaa rfl rfl
theorem n9{l:List D}:D.ok (.sl n l)=true:=gaa rfl rfl
theorem tZ:D.ok (.own i k)=true:=gaa rfl rfl
theorem iU{a b:Nat}:D.ok (.view i k a b)=true:=gaa rfl rfl
theorem uZ{a b:Nat}:D.ok (.ref i k a b)=true:=gaa rfl rfl
theorem l9:D.ok (.pt d)=true:=gaa rfl rfl
theorem Z8{a b:List D}:D.ok (.fn f a b)=true:=gaa rfl rfl
theorem k9:D.ok (.mp i)=true:=gaa rfl rfl
theorem jU{j:IntKind}{z:Int}:one (.int j z)=true:=gaa rfl rfl
theorem jQ:one (.bool b)=true:=gaa rfl rfl
theorem mU{z:ByteArray}:one (.string z)=true:=gaa rfl rfl
theorem vZ{a b}:one (.slice none a b)=true:=gaa rfl rfl
theorem kU:one (.map none)=true:=gaa rfl rfl
theorem lU:one (.pointer none)=true:=gaa rfl rfl
theorem AT:Bc m (.v (.slice none 0 0))=some 0:=gaa rfl rfl
theorem aZ{l:List D}:Bc m (.sl n l)=some l.length:=gaa rfl rfl
theorem BT:Bc m (.own i k)=(match m[i]? with|some (.live _ ver' l)=>if ver'=k then some l.length else none|_=>none):=gaa rfl rfl
theorem JP{a b:Nat}:Bc m (.view i k a b)=(match m[i]? with|some _=>some b|none=>none):=gaa rfl rfl
theorem rS:contents n m (.v (.slice none 0 0))=some []:=gaa rfl rfl
theorem zX{l:List D}:contents n m (.sl k l)=(if k=n then some l else none):=gaa rfl rfl
theorem uS:contents n m (.own i k)=(match m[i]? with|some (.live S' ver' l)=>if S'=n/\ver'=k then some l else none|_=>none):=gaa rfl rfl
theorem CO{a b:Nat}:contents n m (.view i k a b)=(match m[i]? with|some (.live S' ver' l)=>if S'=n/\ver'=k/\a+b<=l.length then some ((l.drop a).take b)else none|_=>none):=gaa rfl rfl
theorem xZ{l:List D}{off:Nat}:part true n off l=(if Wv off n l=true then some (.agg ((l.drop off).take n))else none):=by simp only[Xp];rfl
theorem wZ{l:List D}{off:Nat}:part false n off l=l[off]?:=gaa rfl rfl
theorem NV{l r:List D}{a:Nat}:D.oe (.agg l) a r=.agg (pn l a r):=gaa rfl rfl
theorem baa{r:List D}{a:Nat}:D.oe (.v x) a r=r.headD .dead:=gaa rfl rfl
theorem T0{l r:List D}{a:Nat}:D.oe (.sl n l) a r=r.headD .dead:=gaa rfl rfl
theorem OV{r:List D}{a:Nat}:D.oe (.own i k) a r=r.headD .dead:=gaa rfl rfl
theorem S0{r:List D}{a:Nat}:D.oe (.pt d) a r=r.headD .dead:=gaa rfl rfl
theorem PV{r:List D}{a b c:Nat}:D.oe (.ref i k b c) a r=r.headD .dead:=gaa rfl rfl
theorem head_cons{r:List D}{e:D}:(d::r).headD e=d:=gaa rfl rfl
theorem lR{l r:List D}:pn (d::l) 0 (d'::r)=d'::pn l 0 r:=by simp[pn]
theorem mR{l r:List D}:pn (d::l) (n+1) r=d::pn l n r:=by simp[pn,Nat.add_right_comm]
theorem EK{l:List D}:pn l 0 []=l:=by simp[pn]
theorem cM{l:List D}:uq s [] l=some l:=gaa rfl rfl
theorem sJ{l:List D}{off:Nat}{ps:List (Nat×Nat×Operand)}:uq s ((off,n,o)::ps) l=(if(s.ev o).ok=true/\Lr n (s.ev o).cells=true/\Wv off n l=true then uq s ps (pn l off (s.ev o).cells)else none):=by simp only[ep,Xp];rfl
theorem nS{l:List D}:Yb s n [] l=some l:=gaa rfl rfl
theorem jO{l:List D}{ps:List (Nat×Operand)}:Yb s n ((i,o)::ps) l=(if(s.ev o).ok=true/\Lr n (s.ev o).cells=true/\Wv i 1 l=true then Yb s n ps (l.set i (s.ev o))else none):=by simp only[ep,Xp];rfl
theorem fO:bound s n none=some n:=gaa rfl rfl
theorem gO:bound s n (some o)=(match s.ev o with|.v (.int _ n)=>if 0<=n then some n.toNat else none|_=>none):=gaa rfl rfl
theorem kV{lo hi:Nat}:Iq n m (.v (.slice none 0 0)) lo hi=(if lo=0/\hi=0 then some (.v (.slice none 0 0))else none):=gaa rfl rfl
theorem w0{lo hi:Nat}{l:List D}:Iq n m (.sl k l) lo hi=(if k=n/\lo<=hi/\hi<=l.length then some (.sl n ((l.drop lo).take (hi-lo)))else none):=gaa rfl rfl
theorem lV{lo hi:Nat}:Iq n m (.own i k) lo hi=(match m[i]? with|some (.live S' ver' l)=>if S'=n/\ver'=k/\lo<=hi/\hi<=l.length then some (.view i k lo (hi-lo))else none|_=>none):=gaa rfl rfl
theorem kR{lo hi a b:Nat}:Iq n m (.view i k a b) lo hi=(match m[i]? with|some (.live S' ver' l)=>if S'=n/\ver'=k/\lo<=hi/\hi<=b/\a+b<=l.length then some (.view i k (a+lo) (hi-lo))else none|_=>none):=gaa rfl rfl
theorem IT:leaves []=some []:=gaa rfl rfl
theorem MP{l:List D}:leaves (.v x::l)=(leaves l).map (x::·):=gaa rfl rfl
theorem LS{j k:IntKind}{a b:Int}:wq 0 (.v (.int j a)) (.v (.int k b))=(if j=k then some (a==b)else none):=gaa rfl rfl
theorem fP{a b:Bool}:wq 1 (.v (.bool a)) (.v (.bool b))=some (a==b):=gaa rfl rfl
theorem Px{a b:ByteArray}:(a.toList==b.toList)=decide (a=b):=by
 by_cases h:a=b
 .subst h;simp
 .rw[decide_eq_false h,beq_eq_false_iff_ne];exact λhe=>h (by cases a;cases b;simp only[ByteArray.toList_eq]at he;simpa using he)
theorem MS{a b:ByteArray}:wq 2 (.v (.string a)) (.v (.string b))=some (decide (a=b)):=by
 rw[←Px];rfl
theorem F0{a b:ByteArray}:kf (binOp .eql 0 (.string a) (.string b))=some (.bool (decide (a=b))):=by
 rw[←Px];rfl
theorem G0{a b:ByteArray}:kf (binOp .neq 0 (.string a) (.string b))=some (.bool (!decide (a=b))):=by
 rw[←Px];rfl
theorem NS:Ic [] [] []=some true:=gaa rfl rfl
theorem iP{ks:List Nat}{xs ys:List D}{e:D}:Ic (k::ks) (d::xs) (e::ys)=(match wq k d e,Ic ks xs ys with|some a,some b=>some (a&&b)|_,_=>none):=gaa rfl rfl
section
variable {j:IntKind} {a b:Int}
theorem kX:ag .add j a j b=some (.int j (da j (a+b))):=by simp[ag]
theorem uX:ag .sub j a j b=some (.int j (da j (a-b))):=by simp[ag]
theorem qX:ag .mul j a j b=some (.int j (da j (a*b))):=by simp[ag]
theorem lX:ag .eql j a j b=some (.bool (a==b)):=by simp[ag]
theorem rX:ag .neq j a j b=some (.bool (a !=b)):=by simp[ag]
theorem pX:ag .lss j a j b=some (.bool (decide (a<b))):=by simp[ag]
theorem oX:ag .leq j a j b=some (.bool (decide (a<=b))):=by simp[ag]
theorem nX:ag .gtr j a j b=some (.bool (decide (b<a))):=by simp[ag]
theorem mX:ag .geq j a j b=some (.bool (decide (b<=a))):=by simp[ag]
theorem sX:ag .quo j a j b=if b=0 then none else some (.int j (da j (a.tdiv b))):=by
 by_cases h:b=0<;>simp[ag,h]
theorem tX:ag .rem j a j b=if b=0 then none else some (.int j (a.tmod b)):=by
 by_cases h:b=0<;>simp[ag,h]
end
theorem P1{b:Bool}:(b !=false)=b:=by cases b<;>rfl
theorem Q1{b:Bool}:(b !=true) = !b:=by cases b<;>rfl
theorem X8{b:Bool}:((!b)=false)=(b=true):=by cases b<;>simp
theorem Y8{b:Bool}:((!b)=true)=(b=false):=by cases b<;>simp
theorem Xr:qb s []=some []:=gaa rfl rfl
theorem Yr{l:List RV}:qb ⟨t,m⟩ (.tmp i::l)=(match qb ⟨t,m⟩ l with|some ds=>some (t.getD i .dead::ds)|none=>none):=by
 simp only[qb,Ks];cases qb ⟨t,m⟩ l<;>rfl
theorem rp{l:List RV}:qb ⟨t,m⟩ (.cell b n i::l)=(match ia ⟨t,m⟩ (.load b n (.tmp i)),qb ⟨t,m⟩ l with|some (d,_),some ds=>some (d::ds)|_,_=>none):=by
 simp only[qb,Ks];cases ia ⟨t,m⟩ (.load b n (.tmp i))<;>cases qb ⟨t,m⟩ l<;>rfl
end
def zx:=(And.intro (And.intro (And.intro (And.intro (And.intro (And.intro (And.intro (And.intro (And.intro @ZV @PW) (And.intro @RW @QW)) (And.intro (And.intro @lF @ZR) (And.intro @OW @q_mv))) (And.intro (And.intro (And.intro @FZ @y9) (And.intro @w9 @q_un)) (And.intro (And.intro @zZ @pU) (And.intro @A9 @qU)))) (And.intro (And.intro (And.intro (And.intro @sQ @BZ) (And.intro @BU @EZ)) (And.intro (And.intro @AU @rU) (And.intro @sU @tU))) (And.intro (And.intro (And.intro @oU @uU) (And.intro @jN @E9)) (And.intro (And.intro @HZ @rQ) (And.intro @kN @tQ))))) (And.intro (And.intro (And.intro (And.intro (And.intro @AZ @q_mm) (And.intro @B9 @IZ)) (And.intro (And.intro @GZ @uQ) (And.intro @xU @yU))) (And.intro (And.intro (And.intro @DZ @CZ) (And.intro @CU @wU)) (And.intro (And.intro @lN @C9) (And.intro @yZ @zU)))) (And.intro (And.intro (And.intro (And.intro @vU @gQ_T) (And.intro @gQ_F @VS)) (And.intro (And.intro @WS @mP) (And.intro @SN @oJ))) (And.intro (And.intro (And.intro @pJ @VR) (And.intro @OL @E0)) (And.intro (And.intro @qR @xV) (And.intro @iN @dN)))))) (And.intro (And.intro (And.intro (And.intro (And.intro (And.intro @bS @aS) (And.intro @IM @nQ)) (And.intro (And.intro @eM @pS) (And.intro @wO @fM))) (And.intro (And.intro (And.intro @yJ @gM) (And.intro @vO @sO)) (And.intro (And.intro @uO @sZ) (And.intro @ok_v @n9)))) (And.intro (And.intro (And.intro (And.intro @tZ @iU) (And.intro @uZ @l9)) (And.intro (And.intro @Z8 @k9) (And.intro @jU @jQ))) (And.intro (And.intro (And.intro @mU @vZ) (And.intro @kU @lU)) (And.intro (And.intro @AT @aZ) (And.intro @BT @JP))))) (And.intro (And.intro (And.intro (And.intro (And.intro @rS @zX) (And.intro @uS @CO)) (And.intro (And.intro @xZ @wZ) (And.intro @NV @baa))) (And.intro (And.intro (And.intro @T0 @OV) (And.intro @S0 @PV)) (And.intro (And.intro @head_cons @lR) (And.intro @mR @EK)))) (And.intro (And.intro (And.intro (And.intro @cM @sJ) (And.intro @nS @jO)) (And.intro (And.intro @fO @gO) (And.intro @kV @w0))) (And.intro (And.intro (And.intro @lV @kR) (And.intro @IT @MP)) (And.intro (And.intro @LS @fP) (And.intro @MS @F0))))))) (And.intro (And.intro (And.intro (And.intro (And.intro (And.intro (And.intro @G0 @NS) (And.intro @iP @kX)) (And.intro (And.intro @uX @qX) (And.intro @lX @rX))) (And.intro (And.intro (And.intro @pX @oX) (And.intro @nX @mX)) (And.intro (And.intro @sX @tX) (And.intro @P1 @Q1)))) (And.intro (And.intro (And.intro (And.intro @X8 @Y8) (And.intro @Xr @Yr)) (And.intro (And.intro @rp @Waa.{0}) (And.intro @lab.{0} @UT))) (And.intro (And.intro (And.intro @MT @PT) (And.intro @false_and @and_false)) (And.intro (And.intro @true_or @or_true) (And.intro @or_self @false_or))))) (And.intro (And.intro (And.intro (And.intro (And.intro @or_false @rO) (And.intro @eq_self.{1} @eQ)) (And.intro (And.intro @n3 @Z2) (And.intro @bne_self_eq_false.{0} @bne_iff_ne.{0}))) (And.intro (And.intro (And.intro @bne_eq_false_iff_eq.{0} @Bool.false_eq_true) (And.intro @Bool.true_eq_false @false_implies)) (And.intro (And.intro @true_implies @implies_true.{1}) (And.intro @not_true_eq_false @not_false_eq_true)))) (And.intro (And.intro (And.intro (And.intro @beq_self_eq_true.{0} @RN) (And.intro @NK @yC)) (And.intro (And.intro @ON @NN) (And.intro @kF @QL))) (And.intro (And.intro (And.intro @cS @SW) (And.intro @PL @YR)) (And.intro (And.intro @NW @ZN) (And.intro @KT @Option.bind_some.{0,0})))))) (And.intro (And.intro (And.intro (And.intro (And.intro (And.intro @Nat.mul_one @Int.toNat_natCast) (And.intro @Int.natCast_nonneg @HR)) (And.intro (And.intro @JR @GR) (And.intro @Nat.lt_add_one @Cad))) (And.intro (And.intro (And.intro @true_and @and_true) (And.intro @and_self @Bool.or_false)) (And.intro (And.intro @Bool.false_or @Bool.or_true) (And.intro @Bool.true_or @Bool.or_self)))) (And.intro (And.intro (And.intro (And.intro @SL @Yab.{0}) (And.intro @lad.{0} @Naa.{0})) (And.intro (And.intro @cab.{0} @Jaa.{0}) (And.intro @bab.{0} @List.set_cons_succ.{0}))) (And.intro (And.intro (And.intro @List.set_cons_zero.{0} @Maa.{0,0}) (And.intro @Wab.{0,0} @Lab.{0,0})) (And.intro (And.intro @Option.map_none.{0,0} @jX) (And.intro @decide_true @cond_true.{1}))))) (And.intro (And.intro (And.intro (And.intro (And.intro @cond_false.{1} @if_true.{1}) (And.intro @if_false.{1} @decide_eq_true_eq)) (And.intro (And.intro @decide_eq_false_iff_not @Zaa) (And.intro @taa @Nat.succ_ne_self))) (And.intro (And.intro (And.intro @Bool.not_true @Bool.not_false) (And.intro @VV @decide_false)) (And.intro (And.intro @beq_iff_eq.{0} @beq_eq_false_iff_ne.{0}) (And.intro @ne_eq.{1} @jab)))) (And.intro (And.intro (And.intro (And.intro @Nat.add_zero @Dab.{0,0}) (And.intro @saa @ite_true.{1})) (And.intro (And.intro @ite_false.{1} @Kaa.{0}) (And.intro @List.drop_succ_cons.{0} @tac.{0}))) (And.intro (And.intro (And.intro @List.take_succ_cons.{0} @List.take_zero.{0}) (And.intro @List.getElem?_map.{0,0} @List.length_append.{0})) (And.intro (And.intro @wab @uac) (And.intro @iab.{0} @Iac.{0})))))))) (And.intro (And.intro (And.intro (And.intro @Lab.{0,0} @cZ) (And.intro @CT @h2_z)) (And.intro (And.intro @h2_n @h2_o) (And.intro @paa @Hw))) (And.intro (And.intro (And.intro @Iu @gk) (And.intro @jL @aX)) (And.intro @uT @QX))))
theorem oV{α:Type}{e:α->D} [Fr e] {f:D->D->Prop}{l:List α}:Dv f (l.map e) (l.map e)=True:=Zh (Fr.l l)
theorem nz_S{x:Nat}:(0=x+1)=False:=by simp
theorem nS_z{x:Nat}:(x+1=0)=False:=by simp
theorem nS_S{x y:Nat}:(x+1=y+1)=(x=y):=by simp
def zq:=(And.intro (And.intro (And.intro (And.intro (And.intro (And.intro @nz_S @nS_z) (And.intro @nS_S @oV)) (And.intro (And.intro @nV @nR) (And.intro @P9 @pV))) (And.intro (And.intro (And.intro @qV @sq_v) (And.intro @A0 @D0)) (And.intro (And.intro @uV @T9) (And.intro @tV @pR)))) (And.intro (And.intro (And.intro (And.intro @B0 @oR) (And.intro @C0 @vV)) (And.intro (And.intro @S9 @sV) (And.intro @Q9 @WX))) (And.intro (And.intro (And.intro @OS @VX) (And.intro @kQ @bN)) (And.intro (And.intro @Hw @Iu) (And.intro @R9 @W2))))) (And.intro (And.intro (And.intro (And.intro (And.intro @US @bY) (And.intro @RX @iab.{0})) (And.intro (And.intro @Iac.{0} @and_self) (And.intro @and_true @true_and))) (And.intro (And.intro (And.intro @or_true @true_or) (And.intro @eq_self.{1} @Waa.{0})) (And.intro (And.intro @lab.{0} @Laa.{0}) (And.intro @Baa.{0,0} @Wab.{0,0})))) (And.intro (And.intro (And.intro (And.intro @Maa.{0,0} @List.map_append.{0,0}) (And.intro @cab.{0} @exists_eq'.{1})) (And.intro (And.intro @taa @Zaa) (And.intro @bne_iff_ne.{0} @ne_eq.{1}))) (And.intro @not_false_eq_true @paa))))
def zs:=(And.intro (And.intro (And.intro @Naa.{0} @cab.{0}) (And.intro @Jaa.{0} @bab.{0})) (And.intro (And.intro @jab @Hw) @Iu))
variable {P:Program} {N:Nat}
class StbC (N:Nat) (K:Exit->St->Prop):Prop where
 h:cW N K
instance {b:C}{K:Exit->St->Prop}:StbC N (KS P N b K):=⟨Y9⟩
instance {id:Nat}{K:Exit->St->Prop} [h:StbC N K]:StbC N (KB id K):=⟨U9 h.h⟩
instance {σ β ρ:Type}{id:Nat}{K:Exit->St->Prop}{S:σ->St}{B:β->St}{z:Ex σ β ρ}:StbC N (KL N id K S B z):=⟨X9⟩
instance {X R:Type}{K:Exit->St->Prop}{S:X->St}{z:X⊕R}:StbC N (KJ N K S z):=⟨W9⟩
instance {rs:List RV}{o:D}:StbC 0 (DE rs o):=⟨V9⟩
theorem T.KP{σ β ρ:Type}{id:Nat}{K:Exit->St->Prop} [hst:StbC N K] {x:C}{s:St}(S:σ->St) (B:β->St) (step:σ->Option (Ex σ β ρ)) (x0:σ) {y:β⊕ρ}(hy:Tm.fa step x0=some y) (hs:Tells N s (S x0))
 (round:∀a z,step a=some z->(∀v,z=.ret v->y=.inr v)->Tm.T P N x (KL N id K S B z) (S a))
 (rest:∀b,y=.inl b->K .normal (B b)):Tm.T P N (.block id (.loop x)) K s:=T.fa S B step x0 hy hs hst.h round rest
theorem oB:la []=true:=rfl
theorem kD{α:Type}{e:α->D} [Fr e] {x:α}{l:List D}(h:la l=true):la (e x::l)=true:=by
 simp_all[la,Fr.h]
theorem HN{k:FuncId}{q l:List D}(hc:la q=true) (h:la l=true):la (.fn k [] q::l)=true:=by
 grind[la,na]
theorem nO{k:Nat}{d d':D}{q:List D}{o:D}{m:List Ent}{f:D->List Ent->Prop}(h:Den P k ([d']++q) o) (hq:la q=true) (hf:f o m) (hs:Sq [] [] 9 d d'):vf P k (d::q) m f:=
 Cj (m1:=m) (d1:=o) ⟨(h m).1,λG w vs hv hi=>(h m).2 G w vs ((mE (Zu 9 d d' q q hs (Sbs.free hq))).1 vs hv) hi⟩ hf
theorem LW{rs:List RV}{o:D}{s:St}(h:fI (qb s rs) s.m o):DE rs o .normal s:=by
 obtain⟨ds,h1,h2⟩:=h;exact⟨s,.refl s,ds,h1,h2⟩
def Fs{α:Type}(l:List α) (hi:Int):Option (List α):=if 0<=hi/\hi.toNat<=l.length then some (l.take hi.toNat)else none
def gC{α:Type}(l:List α) (lo:Int):Option (List α):=if 0<=lo/\lo.toNat<=l.length then some (l.drop lo.toNat)else none
section
variable {α:Type} {e:α->D} {l r x:List α} {i:Int} {y:α} {b:Nat}
theorem Q3(h:idx l i=some y):0<=i/\l[i.toNat]?=some y:=vD h
theorem R3(h:idx l i=some y):0<=i/\l[i.toNat]?=some y/\i.toNat<l.length:=by
 obtain⟨h1,h2⟩:=vD h
 grind
theorem tF(h:app b l r=some x):(l.length+r.length)*b<=2 ^ 47/\l.map e++r.map e=x.map e:=by
 obtain⟨h1,rfl⟩:=cO h
 simp_all
theorem pQ(h:put l i y=some x):i.toNat<l.length/\(l.map e).set i.toNat (e y)=x.map e:=by
 obtain⟨h0,h1,rfl⟩:=qQ h
 simp_all
theorem QP{n c:Int}(h:GD b y n c=some x):0<=n/\n<=c/\c<=2 ^ 62/\c.toNat*b<=2 ^ 48/\jaa n.toNat (e y)=x.map e:=by
 obtain⟨h0,h1,h2,h3,rfl⟩:=RP h
 simp_all
theorem GK(h:Fs l i=some x):0<=i/\i.toNat<=l.length/\((l.map e).drop 0).take (i.toNat-0)=x.map e:=by
 unfold Fs at h;split at h
 .rename_i hc;obtain rfl:=Iaa h
  simp_all
 .cases h
theorem KV(h:Fs l i=some x):0<=i/\i.toNat<=l.length/\(l.map e).take i.toNat=x.map e:=by
 obtain⟨h1,h2,h3⟩:=GK (e:=e) h
 simp_all
theorem vR(h:gC l i=some x):0<=i/\i.toNat<=l.length/\((l.map e).drop i.toNat).take (l.length-i.toNat)=x.map e:=by
 unfold gC at h;split at h
 .rename_i hc;obtain rfl:=Iaa h
  grind[List.map_drop,Xac]
 .cases h
theorem VK(h:gC l i=some x):0<=i/\i.toNat<=l.length/\((l.map e).take l.length).drop i.toNat=x.map e:=by
 obtain⟨h1,h2,h3⟩:=vR (e:=e) h
 grind[Xac]
theorem J0(h:gC l i=some x):0<=i/\i.toNat<=l.length/\i.toNat+x.length<=l.length/\l.length-i.toNat=x.length/\((l.map e).drop i.toNat).take x.length=x.map e:=by
 obtain⟨h1,h2,h3⟩:=vR (e:=e) h;have h4:l.length-i.toNat=x.length:=by
  have:=congrArg List.length h3
  grind
 grind
theorem F9{k:IntKind}{a c d:Int}(h:quo k a c=some d):¬c=0/\da k (a.tdiv c)=d:=by
 grind[quo]
theorem EW{k:IntKind}{a c d:Int}(h:rem k a c=some d):¬c=0/\a.tmod c=d:=by
 grind[rem]
end
theorem sA:∀n:Nat,Tm.ds n []=jaa n .dead
 |0=>rfl
 |n+1=>by rw[Iu,sA n];rfl
theorem Den.at{k:Nat}{F:Fun}{l:List D}{o:D}(n:Nat) (hF:Vt P k=some F) (hname:((P.funcs[k]?).map λfn=>fn.name == "runtime.NumGoroutine")=some false) (hf:la l=true)
 (hn:F.ntmps=l.length+n) (h:T P 0 F.code (DE F.results o) ⟨l++Tm.ds n [],[]⟩):Den P k l o:=by
 grind[Den.of,sA]
section
variable {P:Program} {N:Nat} {ops:Array Oper} {Q:Exit->Act->World->Prop} {K:St->Prop} {rl:List RI} {q:Nat} {ps:List (List Nat)}
def aN(R:List (List Nat)->St->Prop) (fp:List (List Nat)) (p:List Nat) (dst:Option Tmp) (i:I) (s:St):Prop:=
 Jy fp (Hk s (.op dst none i)) p=true/\xe s i=true/\Ct (ia s i) (KO (R (fp++[Hk s (.op dst none i)])) s dst)
def ZZ(R:List (List Nat)->St->Prop) (fp:List (List Nat)) (p:List Nat) (dst:Option Tmp) (i:I) (s:St):Prop:=
 Jy fp (Hk s (.op dst none i)) p=true/\R (fp++[Hk s (.op dst none i)]) (s.put dst (.v undef))
def jv(P:Program) (k:FuncId) (ds:List D) (ids:List Nat) (R:St->Prop) (s:St) (dst:Option Tmp):Prop:=
 ∃d,((∀id∈ids,id<s.m.length)/\∀m,(∀id∈ids,m[id]?=s.m[id]?)->CallT P k ds m λd' m'=>d'=d/\m'=m)/\R (s.put dst d)
def xO(P:Program) (R:List (List Nat)->St->Prop) (fp:List (List Nat)) (p:List Nat) (k:FuncId) (dst:Option Tmp) (args:List Operand) (s:St):Prop:=Jy fp (vb s args) p=true/\jv P k (args.map s.ev) (vb s args) (R (fp++[vb s args])) s dst
def Z1(R:List (List Nat)->St->Prop) (fp:List (List Nat)) (p:List Nat) (dst:Option Tmp) (args:List Operand) (s:St):Prop:=Jy fp (vb s args) p=true/\R (fp++[vb s args]) (s.put dst (.v undef))
def Bt(P:Program):List (List Nat)->Nat->List RI->(St->Prop)->List (List Nat)->St->Prop
 |_,0,l,K,_,s=>Ug P l K s
 |_,_+1,[],_,_,_=>False
 |ps,q+1,.op dst none i::l,K,fp,s=>aN (Bt P ps.tail q l K) fp (ps.headD []) dst i s
 |ps,q+1,.op dst (some (t,b)) i::l,K,fp,s=>
  gD (s.t.getD t .dead) b (aN (Bt P ps.tail q l K) fp (ps.headD []) dst i) ⟨s.t.set t (.v (.bool b)),s.m⟩ (ZZ (Bt P ps.tail q l K) fp (ps.headD []) dst i) ⟨s.t.set t (.v (.bool (!b))),s.m⟩ s
 |ps,q+1,.call dst none (.func k) args::l,K,fp,s=>xO P (Bt P ps.tail q l K) fp (ps.headD []) k dst args s
 |ps,q+1,.call dst (some (t,b)) (.func k) args::l,K,fp,s=>
  gD (s.t.getD t .dead) b (xO P (Bt P ps.tail q l K) fp (ps.headD []) k dst args) ⟨s.t.set t (.v (.bool b)),s.m⟩ (Z1 (Bt P ps.tail q l K) fp (ps.headD []) dst args) ⟨s.t.set t (.v (.bool (!b))),s.m⟩ s
 |_,_+1,.call ..::_,_,_,_=>False
theorem lD{d:D}{b:Bool}{t:List D}{i:Nat}(hd:t.getD i .dead=d) {m:List Ent}{R1 R2:St->Prop}(h:gD d b R1 ⟨t.set i (.v (.bool b)),m⟩ R2 ⟨t.set i (.v (.bool (!b))),m⟩ ⟨t,m⟩) :
 match gate ⟨t,m⟩ (some (i,b))with
 |none=>False
 |some none=>True
 |some (some (c,b))=>(c=b->R1 ⟨t,m⟩)/\(c≠b->R2 ⟨t,m⟩):=by
 simp only[gate,hd];unfold gD at h
 cases d with
 |v x=>
  cases x with
  |bool c=>
   simp only[gQ]at h⊢;have hs:=Vz hd (by simp);refine⟨λhc=>?_,λhc=>?_⟩
   .subst hc;have:=h.1 rfl
    simp_all
   .have:=h.2 hc;rwa [show(!b)=c by cases b<;>cases c<;>simp_all,hs]at this
  |_=>cases b<;>simpa using h
 |_=>exact h
theorem gB:∀{q:Nat}{l:List RI}{ps:List (List Nat)}{fp:List (List Nat)}{s:St},Bt P ps q l K fp s->zv P ps fp q l K s
 |0,l,ps,fp,s,h=>by simp only[Bt]at h;simp only[zv];exact Wr h
 |q+1,[],ps,fp,s,h=>by simp only[Bt]at h
 |q+1,.op dst none i::l,ps,fp,s,h=>by
  simp only[Bt,aN]at h;obtain⟨h1,h0,h2⟩:=h;simp only[zv,gate];obtain⟨d,m',h3,h4⟩:=(Qp _ _).1 h2;exact⟨h1,d,m',h0,h3,gB h4⟩
 |q+1,.op dst (some (t,b)) i::l,ps,fp,⟨st,sm⟩,h=>by
  simp only[Bt]at h;have h:=lD rfl h;have hrid:∀s,Hk s (.op dst (some (t,b)) i)=Hk s (.op dst none i):=λ_=>rfl;simp only[zv];rw[hrid];split at h
  .simp_all
  .grind[gate]
  .rename_i c b' hg;simp only[hg];by_cases hc:c=b'
   .obtain⟨h1,h0,h2⟩:=h.1 hc;obtain⟨d,m',h3,h4⟩:=(Qp _ _).1 h2;exact⟨h1,λ_=>⟨d,m',h0,h3,gB h4⟩,λhn=>(hn hc).elim⟩
   .obtain⟨h1,h2⟩:=h.2 hc;exact⟨h1,λhn=>(hc hn).elim,λ_=>gB h2⟩
 |q+1,.call dst none (.func k) args::l,ps,fp,s,h=>by
  simp only[Bt,xO,jv]at h;obtain⟨h0,d,h1,h2⟩:=h;simp only[zv,gate];exact⟨h0,d,by simp_all,gB h2⟩
 |q+1,.call dst (some (t,b)) (.func k) args::l,ps,fp,⟨st,sm⟩,h=>by
  simp only[Bt]at h;have h:=lD rfl h;simp only[zv];have hev:St.cv ⟨st,sm⟩ (.func k)=.fn k [] []:=rfl;simp only[hev];split at h
  .simp_all
  .grind[gate]
  .rename_i c b' hg;simp only[hg];by_cases hc:c=b'
   .obtain⟨h0,d,h1,h2⟩:=h.1 hc;exact⟨h0,λ_=>⟨d,by simp_all,gB h2⟩,λhn=>(hn hc).elim⟩
   .obtain⟨h0,h2⟩:=h.2 hc;exact⟨h0,λhn=>(hc hn).elim,λ_=>gB h2⟩
 |q+1,.call dst none (.tmp _) args::l,ps,fp,s,h=>by simp only[Bt]at h
 |q+1,.call dst none (.const _) args::l,ps,fp,s,h=>by simp only[Bt]at h
 |q+1,.call dst none (.global _) args::l,ps,fp,s,h=>by simp only[Bt]at h
 |q+1,.call dst (some _) (.tmp _) args::l,ps,fp,s,h=>by simp only[Bt]at h
 |q+1,.call dst (some _) (.const _) args::l,ps,fp,s,h=>by simp only[Bt]at h
 |q+1,.call dst (some _) (.global _) args::l,ps,fp,s,h=>by simp only[Bt]at h
 |q+1,.call dst none (.meth _ _) args::l,ps,fp,s,h=>by simp only[Bt]at h
 |q+1,.call dst (some _) (.meth _ _) args::l,ps,fp,s,h=>by simp only[Bt]at h
theorem T.dy(hm:P.follows .mixedOrders=true) {l:List RI}{K:Exit->St->Prop}{s:St}(h:Bt P [] q l (K .normal) [] s):T P N (.draw q l) K s:=
 T.P2 hm (Qs (gB h))
theorem T.ay(hm:P.follows .mixedOrders=true) {cuts:List Nat}{bs:List (List Nat)}{l:List RI}{K:Exit->St->Prop}{s:St}(ps:List (List Nat)) (hok:Rs bs l q ps []=true) (h:Bt P ps q l (K .normal) [] s):T P N (.any cuts q bs l) K s:=
 T.any2 hm ps hok (gB h)
end
section
variable {P:Program}
theorem qG{k:Nat}{ds ds':List D}{o:D}{R:St->Prop}{s:St}{dst:Option Tmp}(h:Den P k ds' o) (hf:R (s.put dst o)) (hs:aB (Sq [] [] 9) ds ds'):jv P k ds [] R s dst:=
 ⟨o,⟨λ_ h=>(by cases h),λm _=>⟨(h m).1,λG w vs hv hi=>(h m).2 G w vs ((mE (Pw (Zu 9) hs)).1 vs hv) hi⟩⟩,hf⟩
def Lq(m:List Ent) (d e:D):Prop:=
 match d,e with
 |.own j v,.sl S b=>match m[j]? with|some (.live S' v' a)=>S'=S/\v'=v/\a=b/\la a=true|_=>False
 |.view j v lo n,.sl S b=>match m[j]? with|some (.live S' v' a)=>S'=S/\v'=v/\lo+n<=a.length/\(a.drop lo).take n=b/\la b=true|_=>False
 |.ref j v x s,.pt e=>match m[j]? with|some (.live _ v' a)=>v'=v/\s=0/\a[x]?=some e/\na e=true|_=>False
 |d,e=>Sq [] [] 9 d e
theorem YZ{l r:List D}(h:Sbs [] [] l r) (m:List Ent):Sbs [] m l r:=by
 induction h with
 |nil=>exact .nil
 |same hf h ih=>exact .same hf ih
 |dead h ih=>exact .dead ih
 |nils h ih=>exact .nils ih
 |agg ha h iha ih=>exact .agg iha ih
 |tup ha h iha ih=>exact .tup iha ih
 |sl ha h iha ih=>exact .sl iha ih
 |pt ha h iha ih=>exact .pt iha ih
 |fn ha hc h iha ihc ih=>exact .fn iha ihc ih
 |ifc ha h iha ih=>exact .ifc iha ih
 |adopt i hi=>simp at hi
 |own hi=>simp at hi
 |ref hi=>simp at hi
 |view hi=>simp at hi
 |mp hi=>simp at hi
 |Wd hm=>simp at hm
 |fview hm=>simp at hm
 |fref hm=>simp at hm
theorem iZ{m m':List Ent}{ids:List Nat}(hm:∀id∈ids,m'[id]?=m[id]?) {d e:D}{l r:List D}(h:Lq m d e) (hid:(match ld d with|some j=>ids.contains j|none=>true)=true) (hs:Sbs [] m' l r):Sbs [] m' (d::l) (e::r):=by
 unfold Lq at h;split at h
 .rename_i j v S b;simp only[ld,gac]at hid;split at h
  .rename_i S' v' a hj;obtain⟨rfl,rfl,rfl,hf⟩:=h;exact .Wd (by simp_all) rfl (Sbs.free hf) hs
  simp_all
 .rename_i j v lo n S b;simp only[ld,gac]at hid;split at h
  .rename_i S' v' a hj;obtain⟨rfl,rfl,hn,rfl,hf⟩:=h;exact .fview (by simp_all) rfl hn (Sbs.free hf) hs
  simp_all
 .rename_i j v x s e;simp only[ld,gac]at hid;split at h
  .rename_i S' v' a hj;obtain⟨rfl,rfl,hx,hf⟩:=h;exact .fref (by rw[hm j hid];omega) rfl hx (.same hf .nil) hs
  simp_all
 .have h1:=YZ (Zu 9 d e [] [] h .nil) m';exact Sbs.app (a:=[d]) (b:=[e]) h1 hs
def GB(ids:List Nat) (ds:List D):Bool:=ds.all λd=>match ld d with|some j=>ids.contains j|none=>true
theorem qC{m m':List Ent}{ids:List Nat}(hm:∀id∈ids,m'[id]?=m[id]?):∀{a b:List D},aB (Lq m) a b->GB ids a=true->Sbs [] m' a b
 |[],[],_,_=>.nil
 |d::l,e::r,h,ht=>by
  simp only[GB,Xab,paa]at ht;exact iZ hm h.1 ht.1 (qC hm h.2 ht.2)
 |[],_::_,h,_=>h.elim
 |_::_,[],h,_=>h.elim
theorem BC{k:Nat}{ids:List Nat}{ds ds':List D}{o:D}{R:St->Prop}{s:St}{dst:Option Tmp}(h:Den P k ds' o) (hf:R (s.put dst o)) (hfl:flat o=true) (hi:(ids.all λi=>decide (i<s.m.length))=true) (ht:GB ids ds=true) (hs:aB (Lq s.m) ds ds'):jv P k ds ids R s dst:=by
 refine⟨o,⟨λid hid=>?_,λm hm=>?_⟩,hf⟩
 .simp_all
 .exact Qx h (qC hm hs ht) hfl ⟨rfl,rfl⟩
variable {m:List Ent} {S x y lo n s:Nat} {b:List D} {e:D}
theorem fZ:Lq m (.own x y) (.sl S b)=(match m[x]? with|some (.live S' v' a)=>S'=S/\v'=y/\a=b/\la a=true|_=>False):=gaa rfl rfl
theorem ET:Lq m (.view x y lo n) (.sl S b)=(match m[x]? with|some (.live S' v' a)=>S'=S/\v'=y/\lo+n<=a.length/\(a.drop lo).take n=b/\la b=true|_=>False):=gaa rfl rfl
theorem gZ{z:Nat}:Lq m (.ref x y z s) (.pt e)=(match m[x]? with|some (.live _ v' a)=>v'=y/\s=0/\a[z]?=some e/\na e=true|_=>False):=gaa rfl rfl
theorem lq_v{z:Value}:Lq m (.v z) e=Sq [] [] 9 (.v z) e:=gaa rfl rfl
theorem dZ{z:List D}:Lq m (.agg z) e=Sq [] [] 9 (.agg z) e:=gaa rfl rfl
theorem R8{z:List D}:Lq m (.sl S z) e=Sq [] [] 9 (.sl S z) e:=gaa rfl rfl
theorem Q8{z:D}:Lq m (.pt z) e=Sq [] [] 9 (.pt z) e:=gaa rfl rfl
theorem P8{α:Type}{f:α->D} [Fr f] {l:List α}:la (l.map f)=true:=Fr.l l
theorem eZ{α:Type}{f:α->D}{l:List α}:(l.map f).length=l.length:=Dab f
end
variable {P:Program}
theorem H9{s:St}{d:Option Tmp}{g:Option (Tmp×Bool)}{u0:Operand}:Hk s (.op d g (.mv u0))=[]:=gaa rfl rfl
theorem L9{s:St}{u0:Operand}:xe s (.mv u0)=true:=gaa rfl rfl
theorem KU{s:St}{d:Option Tmp}{g:Option (Tmp×Bool)}{u0:Operand}{u1:Operand}{u2:Operand}:Hk s (.op d g (.pick u0 u1 u2))=[]:=gaa rfl rfl
theorem ZU{s:St}{u0:Operand}{u1:Operand}{u2:Operand}:xe s (.pick u0 u1 u2)=true:=gaa rfl rfl
theorem LZ{s:St}{d:Option Tmp}{g:Option (Tmp×Bool)}{u0:BinOp}{u1:Operand}{u2:Operand}:Hk s (.op d g (.bin u0 u1 u2))=[]:=gaa rfl rfl
theorem TZ{s:St}{u0:BinOp}{u1:Operand}{u2:Operand}:xe s (.bin u0 u1 u2)=true:=gaa rfl rfl
theorem JZ{s:St}{d:Option Tmp}{g:Option (Tmp×Bool)}{u0:Bool}{u1:Operand}{u2:Operand}:Hk s (.op d g (.beq u0 u1 u2))=[]:=gaa rfl rfl
theorem SZ{s:St}{u0:Bool}{u1:Operand}{u2:Operand}:xe s (.beq u0 u1 u2)=true:=gaa rfl rfl
theorem I9{s:St}{d:Option Tmp}{g:Option (Tmp×Bool)}{u0:UnOp}{u1:Operand}:Hk s (.op d g (.un u0 u1))=[]:=gaa rfl rfl
theorem M9{s:St}{u0:UnOp}{u1:Operand}:xe s (.un u0 u1)=true:=gaa rfl rfl
theorem EU{s:St}{d:Option Tmp}{g:Option (Tmp×Bool)}{u0:IntKind}{u1:Operand}:Hk s (.op d g (.conv u0 u1))=[]:=gaa rfl rfl
theorem TU{s:St}{u0:IntKind}{u1:Operand}:xe s (.conv u0 u1)=true:=gaa rfl rfl
theorem wQ{s:St}{d:Option Tmp}{g:Option (Tmp×Bool)}{u0:Nat}{u1:D}:Hk s (.op d g (.alloc u0 u1))=[]:=gaa rfl rfl
theorem QQ{s:St}{u0:Nat}{u1:D}:xe s (.alloc u0 u1)=true:=gaa rfl rfl
theorem MZ{s:St}{d:Option Tmp}{g:Option (Tmp×Bool)}{u0:Nat}{u1:Operand}:Hk s (.op d g (.box u0 u1))=[]:=gaa rfl rfl
theorem UZ{s:St}{u0:Nat}{u1:Operand}:xe s (.box u0 u1)=true:=gaa rfl rfl
theorem xQ{s:St}{d:Option Tmp}{g:Option (Tmp×Bool)}{u0:List D}{u1:List (Nat×Nat×Operand)}:Hk s (.op d g (.build u0 u1))=[]:=gaa rfl rfl
theorem RQ{s:St}{u0:List D}{u1:List (Nat×Nat×Operand)}:xe s (.build u0 u1)=true:=gaa rfl rfl
theorem nN{s:St}{d:Option Tmp}{g:Option (Tmp×Bool)}{u0:Nat}{u1:Nat}{u2:D}{u3:List (Nat×Operand)}:Hk s (.op d g (.bslice u0 u1 u2 u3))=[]:=gaa rfl rfl
theorem zN{s:St}{u0:Nat}{u1:Nat}{u2:D}{u3:List (Nat×Operand)}:xe s (.bslice u0 u1 u2 u3)=true:=gaa rfl rfl
theorem GU{s:St}{d:Option Tmp}{g:Option (Tmp×Bool)}{u0:Bool}{u1:Nat}{u2:Operand}:Hk s (.op d g (.load u0 u1 u2))=Jq s [u2]:=gaa rfl rfl
theorem VU{s:St}{u0:Bool}{u1:Nat}{u2:Operand}:xe s (.load u0 u1 u2)=true:=gaa rfl rfl
theorem JQ{s:St}{d:Option Tmp}{g:Option (Tmp×Bool)}{u0:Nat}{u1:Operand}{u2:Operand}:Hk s (.op d g (.store u0 u1 u2))=Jq s [u1]:=gaa rfl rfl
theorem dR{s:St}{u0:Nat}{u1:Operand}{u2:Operand}:xe s (.store u0 u1 u2)=true:=gaa rfl rfl
theorem JU{s:St}{d:Option Tmp}{g:Option (Tmp×Bool)}{u0:Operand}:Hk s (.op d g (.nilc u0))=[]:=gaa rfl rfl
theorem YU{s:St}{u0:Operand}:xe s (.nilc u0)=true:=gaa rfl rfl
theorem IQ{s:St}{d:Option Tmp}{g:Option (Tmp×Bool)}{u0:Nat}{u1:Operand}{u2:Option Operand}{u3:Option Operand}{u4:Option Operand}:Hk s (.op d g (.slice u0 u1 u2 u3 u4))=Jq s [u1]:=gaa rfl rfl
theorem cR{s:St}{u0:Nat}{u1:Operand}{u2:Option Operand}{u3:Option Operand}{u4:Option Operand}:xe s (.slice u0 u1 u2 u3 u4)=true:=gaa rfl rfl
theorem yQ{s:St}{d:Option Tmp}{g:Option (Tmp×Bool)}{u0:Bool}{u1:Nat}{u2:Nat}{u3:Operand}:Hk s (.op d g (.faddr u0 u1 u2 u3))=[]:=gaa rfl rfl
theorem SQ{s:St}{u0:Bool}{u1:Nat}{u2:Nat}{u3:Operand}:xe s (.faddr u0 u1 u2 u3)=true:=gaa rfl rfl
theorem zQ{s:St}{d:Option Tmp}{g:Option (Tmp×Bool)}{u0:Bool}{u1:Nat}{u2:Nat}{u3:Operand}:Hk s (.op d g (.field u0 u1 u2 u3))=[]:=gaa rfl rfl
theorem TQ{s:St}{u0:Bool}{u1:Nat}{u2:Nat}{u3:Operand}:xe s (.field u0 u1 u2 u3)=true:=gaa rfl rfl
theorem AQ{s:St}{d:Option Tmp}{g:Option (Tmp×Bool)}{u0:Nat}{u1:Operand}{u2:Operand}:Hk s (.op d g (.iaddr u0 u1 u2))=Jq s [u1]:=gaa rfl rfl
theorem UQ{s:St}{u0:Nat}{u1:Operand}{u2:Operand}:xe s (.iaddr u0 u1 u2)=true:=gaa rfl rfl
theorem vQ{s:St}{d:Option Tmp}{g:Option (Tmp×Bool)}{u0:Bool}{u1:Nat}{u2:Nat}{u3:Operand}{u4:Operand}:Hk s (.op d g (.aaddr u0 u1 u2 u3 u4))=[]:=gaa rfl rfl
theorem PQ{s:St}{u0:Bool}{u1:Nat}{u2:Nat}{u3:Operand}{u4:Operand}:xe s (.aaddr u0 u1 u2 u3 u4)=true:=gaa rfl rfl
theorem BQ{s:St}{d:Option Tmp}{g:Option (Tmp×Bool)}{u0:Bool}{u1:Nat}{u2:Nat}{u3:Operand}{u4:Operand}:Hk s (.op d g (.index u0 u1 u2 u3 u4))=[]:=gaa rfl rfl
theorem VQ{s:St}{u0:Bool}{u1:Nat}{u2:Nat}{u3:Operand}{u4:Operand}:xe s (.index u0 u1 u2 u3 u4)=true:=gaa rfl rfl
theorem mK{s:St}{d:Option Tmp}{g:Option (Tmp×Bool)}{u0:Operand}{u1:Nat}:Hk s (.op d g (.extract u0 u1))=[]:=gaa rfl rfl
theorem yK{s:St}{u0:Operand}{u1:Nat}:xe s (.extract u0 u1)=true:=gaa rfl rfl
theorem PZ{s:St}{d:Option Tmp}{g:Option (Tmp×Bool)}{u0:Operand}:Hk s (.op d g (.len u0))=Jq s [u0]:=gaa rfl rfl
theorem XZ{s:St}{u0:Operand}:xe s (.len u0)=true:=gaa rfl rfl
theorem MU{s:St}{d:Option Tmp}{g:Option (Tmp×Bool)}{u0:Operand}:Hk s (.op d g (.slen u0))=[]:=gaa rfl rfl
theorem cV{s:St}{u0:Operand}:xe s (.slen u0)=true:=gaa rfl rfl
theorem mN{s:St}{d:Option Tmp}{g:Option (Tmp×Bool)}{u0:Nat}{u1:Nat}{u2:Operand}{u3:Operand}:Hk s (.op d g (.append u0 u1 u2 u3))=Jq s [u2,u3]:=gaa rfl rfl
theorem yN{s:St}{u0:Nat}{u1:Nat}{u2:Operand}{u3:Operand}:xe s (.append u0 u1 u2 u3)=(match s.ev u2 with|.own ..=>true|_=>false):=gaa rfl rfl
theorem nK{s:St}{d:Option Tmp}{g:Option (Tmp×Bool)}{u0:Nat}{u1:Nat}{u2:D}{u3:Operand}{u4:Operand}:Hk s (.op d g (.mkslice u0 u1 u2 u3 u4))=[]:=gaa rfl rfl
theorem zK{s:St}{u0:Nat}{u1:Nat}{u2:D}{u3:Operand}{u4:Operand}:xe s (.mkslice u0 u1 u2 u3 u4)=true:=gaa rfl rfl
theorem oN{s:St}{d:Option Tmp}{g:Option (Tmp×Bool)}{u0:FuncId}{u1:List Operand}{u2:List Operand}:Hk s (.op d g (.mkfunc u0 u1 u2))=[]:=gaa rfl rfl
theorem AN{s:St}{u0:FuncId}{u1:List Operand}{u2:List Operand}:xe s (.mkfunc u0 u1 u2)=true:=gaa rfl rfl
theorem FU{s:St}{d:Option Tmp}{g:Option (Tmp×Bool)}  : Hk s (.op d g (.fail))=[]:=gaa rfl rfl
theorem UU{s:St}  : xe s (.fail)=true:=gaa rfl rfl
theorem G9{s:St}{d:Option Tmp}{g:Option (Tmp×Bool)}{u0:Bool}{u1:List Operand}:Hk s (.op d g (.mm u0 u1))=[]:=gaa rfl rfl
theorem K9{s:St}{u0:Bool}{u1:List Operand}:xe s (.mm u0 u1)=true:=gaa rfl rfl
theorem NZ{s:St}{d:Option Tmp}{g:Option (Tmp×Bool)}{u0:Bool}{u1:List Nat}{u2:Operand}{u3:Operand}:Hk s (.op d g (.ceq u0 u1 u2 u3))=[]:=gaa rfl rfl
theorem VZ{s:St}{u0:Bool}{u1:List Nat}{u2:Operand}{u3:Operand}:xe s (.ceq u0 u1 u2 u3)=true:=gaa rfl rfl
theorem NU{s:St}{d:Option Tmp}{g:Option (Tmp×Bool)}{u0:Nat}{u1:Operand}:Hk s (.op d g (.strb u0 u1))=[]:=gaa rfl rfl
theorem dV{s:St}{u0:Nat}{u1:Operand}:xe s (.strb u0 u1)=true:=gaa rfl rfl
theorem LU{s:St}{d:Option Tmp}{g:Option (Tmp×Bool)}{u0:Operand}{u1:Operand}:Hk s (.op d g (.Cs u0 u1))=[]:=gaa rfl rfl
theorem aV{s:St}{u0:Operand}{u1:Operand}:xe s (.Cs u0 u1)=true:=gaa rfl rfl
theorem pN{s:St}{d:Option Tmp}{g:Option (Tmp×Bool)}{u0:Operand}{u1:Option Operand}{u2:Option Operand}:Hk s (.op d g (.sslice u0 u1 u2))=[]:=gaa rfl rfl
theorem BN{s:St}{u0:Operand}{u1:Option Operand}{u2:Option Operand}:xe s (.sslice u0 u1 u2)=true:=gaa rfl rfl
theorem FQ{s:St}{d:Option Tmp}{g:Option (Tmp×Bool)}  : Hk s (.op d g (.mkmap))=[]:=gaa rfl rfl
theorem YQ{s:St}  : xe s (.mkmap)=true:=gaa rfl rfl
theorem GQ{s:St}{d:Option Tmp}{g:Option (Tmp×Bool)}{u0:Nat}{u1:Bool}{u2:D}{u3:Operand}{u4:Operand}:Hk s (.op d g (.mlook u0 u1 u2 u3 u4))=Jq s [u3]:=gaa rfl rfl
theorem ZQ{s:St}{u0:Nat}{u1:Bool}{u2:D}{u3:Operand}{u4:Operand}:xe s (.mlook u0 u1 u2 u3 u4)=true:=gaa rfl rfl
theorem IU{s:St}{d:Option Tmp}{g:Option (Tmp×Bool)}{u0:Nat}{u1:Operand}{u2:Operand}{u3:Operand}:Hk s (.op d g (.mput u0 u1 u2 u3))=[]:=gaa rfl rfl
theorem XU{s:St}{u0:Nat}{u1:Operand}{u2:Operand}{u3:Operand}:xe s (.mput u0 u1 u2 u3)=true:=gaa rfl rfl
theorem HU{s:St}{d:Option Tmp}{g:Option (Tmp×Bool)}{u0:Operand}:Hk s (.op d g (.mlen u0))=Jq s [u0]:=gaa rfl rfl
theorem WU{s:St}{u0:Operand}:xe s (.mlen u0)=true:=gaa rfl rfl
theorem KQ{s:St}{d:Option Tmp}{g:Option (Tmp×Bool)}{u0:Nat}{u1:Operand}{u2:Option Operand}{u3:Option Operand}:Hk s (.op d g (.trunc u0 u1 u2 u3))=Jq s [u1]:=gaa rfl rfl
theorem eR{s:St}{u0:Nat}{u1:Operand}{u2:Option Operand}{u3:Option Operand}:xe s (.trunc u0 u1 u2 u3)=(match s.ev u1 with|.own ..=>true|_=>false):=gaa rfl rfl
theorem DQ{s:St}{d:Option Tmp}{g:Option (Tmp×Bool)}{u0:TypeId}{u1:Operand}:Hk s (.op d g (.mkifc u0 u1))=[]:=gaa rfl rfl
theorem XQ{s:St}{u0:TypeId}{u1:Operand}:xe s (.mkifc u0 u1)=true:=gaa rfl rfl
theorem oK{s:St}{d:Option Tmp}{g:Option (Tmp×Bool)}{u0:Bool}{u1:TypeId}{u2:D}{u3:Operand}:Hk s (.op d g (.tassert u0 u1 u2 u3))=[]:=gaa rfl rfl
theorem AK{s:St}{u0:Bool}{u1:TypeId}{u2:D}{u3:Operand}:xe s (.tassert u0 u1 u2 u3)=true:=gaa rfl rfl
theorem OZ{s:St}{d:Option Tmp}{g:Option (Tmp×Bool)}{u0:Nat}{u1:D}{u2:Operand}:Hk s (.op d g (.clr u0 u1 u2))=[]:=gaa rfl rfl
theorem WZ{s:St}{u0:Nat}{u1:D}{u2:Operand}:xe s (.clr u0 u1 u2)=true:=gaa rfl rfl
theorem DU{s:St}{d:Option Tmp}{g:Option (Tmp×Bool)}{u0:Operand}:Hk s (.op d g (.capn u0))=[]:=gaa rfl rfl
theorem SU{s:St}{u0:Operand}:xe s (.capn u0)=true:=gaa rfl rfl
theorem HQ{s:St}{d:Option Tmp}{g:Option (Tmp×Bool)}{u0:Bool}{u1:Operand}:Hk s (.op d g (.Mr u0 u1))=Jq s [u1]:=gaa rfl rfl
theorem aR{s:St}{u0:Bool}{u1:Operand}:xe s (.Mr u0 u1)=true:=gaa rfl rfl
theorem CQ{s:St}{d:Option Tmp}{g:Option (Tmp×Bool)}{u0:Nat}{u1:Nat}{u2:D}{u3:Operand}{u4:Operand}:Hk s (.op d g (.mkapp u0 u1 u2 u3 u4))=[]:=gaa rfl rfl
theorem WQ{s:St}{u0:Nat}{u1:Nat}{u2:D}{u3:Operand}{u4:Operand}:xe s (.mkapp u0 u1 u2 u3 u4)=true:=gaa rfl rfl
section
variable {ps:List (List Nat)} {q k t:Nat} {b:Bool} {dst:Option Tmp} {i:I} {l:List RI} {K:St->Prop} {fp:List (List Nat)} {s:St} {args:List Operand} {R:List (List Nat)->St->Prop} {p f g:List Nat} {x y:Nat} {o:Operand} {os:List Operand} {st:List D} {m:List Ent} {S:Nat} {r:List D}
theorem CS:Bt P ps 0 l K fp s=Ug P l K s:=by simp only[Bt]
theorem T2:Bt P ps (q+1) (.op dst none i::l) K fp s=aN (Bt P ps.tail q l K) fp (ps.headD []) dst i s:=by simp only[Bt]
theorem OX:Bt P ps (q+1) (.op dst (some (t,b)) i::l) K fp ⟨st,m⟩=gD (st.getD t .dead) b (aN (Bt P ps.tail q l K) fp (ps.headD []) dst i) ⟨st.set t (.v (.bool b)),m⟩ (ZZ (Bt P ps.tail q l K) fp (ps.headD []) dst i) ⟨st.set t (.v (.bool (!b))),m⟩ ⟨st,m⟩:=by simp only[Bt]
theorem BS:Bt P ps (q+1) (.call dst none (.func k) args::l) K fp s=xO P (Bt P ps.tail q l K) fp (ps.headD []) k dst args s:=by simp only[Bt]
theorem WO:Bt P ps (q+1) (.call dst (some (t,b)) (.func k) args::l) K fp ⟨st,m⟩=gD (st.getD t .dead) b (xO P (Bt P ps.tail q l K) fp (ps.headD []) k dst args) ⟨st.set t (.v (.bool b)),m⟩ (Z1 (Bt P ps.tail q l K) fp (ps.headD []) dst args) ⟨st.set t (.v (.bool (!b))),m⟩ ⟨st,m⟩:=by simp only[Bt]
theorem q9:aN R fp p dst i s=(Jy fp (Hk s (.op dst none i)) p=true/\xe s i=true/\Ct (ia s i) (KO (R (fp++[Hk s (.op dst none i)])) s dst)):=gaa rfl rfl
theorem O9:ZZ R fp p dst i s=(Jy fp (Hk s (.op dst none i)) p=true/\R (fp++[Hk s (.op dst none i)]) (s.put dst (.v undef))):=gaa rfl rfl
theorem W1:xO P R fp p k dst args s=(Jy fp (vb s args) p=true/\jv P k (args.map s.ev) (vb s args) (R (fp++[vb s args])) s dst):=gaa rfl rfl
theorem B2:Z1 R fp p dst args s=(Jy fp (vb s args) p=true/\R (fp++[vb s args]) (s.put dst (.v undef))):=gaa rfl rfl
theorem N0:vb s []=[]:=gaa rfl rfl
theorem AV:vb s (o::os)=pk (s.ev o)++vb s os:=gaa rfl rfl
theorem id_v{z:Value}:pk (.v z)=[]:=gaa rfl rfl
theorem GY:pk (.agg r)=ij r:=gaa rfl rfl
theorem KY:pk (.tup r)=ij r:=gaa rfl rfl
theorem P3:pk (.sl S r)=ij r:=gaa rfl rfl
theorem O3{d:D}:pk (.pt d)=pk d:=gaa rfl rfl
theorem N3{a c:List D}:pk (.fn k a c)=ij a++ij c:=gaa rfl rfl
theorem qT:pk .dead=[]:=gaa rfl rfl
theorem IY:pk (.own x y)=[x]:=gaa rfl rfl
theorem JY{u v:Nat}:pk (.ref x y u v)=[x]:=gaa rfl rfl
theorem rT{u v:Nat}:pk (.view x y u v)=[x]:=gaa rfl rfl
theorem HY:ij []=[]:=gaa rfl rfl
theorem pT{d:D}:ij (d::r)=pk d++ij r:=gaa rfl rfl
theorem id_map{α:Type}{f:α->D} [Fr f] {l:List α}:ij (l.map f)=[]:=Ir (Fr.l l)
theorem DR:Jq s []=[]:=gaa rfl rfl
theorem FN:Jq s (o::os)=(match ld (s.ev o)with|some id=>id::Jq s os|none=>Jq s os):=gaa rfl rfl
theorem fX:Jy fp f []=true:=gaa rfl rfl
theorem gS{j:Nat}:Jy fp f (j::p)=(Hn (fp.getD j []) f&&Jy fp f p):=gaa rfl rfl
theorem E1:Hn [] f=true:=gaa rfl rfl
theorem F1:Hn (x::g) f=(Iv x f&&Hn g f):=gaa rfl rfl
theorem ap_0:Iv x []=true:=gaa rfl rfl
theorem ap_s:Iv x (y::g)=(IN x y&&Iv x g):=gaa rfl rfl
theorem T8:IN 0 0=false:=gaa rfl rfl
theorem U8:IN 0 (y+1)=true:=gaa rfl rfl
theorem V8:IN (x+1) 0=true:=gaa rfl rfl
theorem W8:IN (x+1) (y+1)=IN x y:=gaa rfl rfl
theorem aaa{z:Value}:ld (.v z)=none:=gaa rfl rfl
theorem CV:ld (.agg r)=none:=gaa rfl rfl
theorem FV:ld (.tup r)=none:=gaa rfl rfl
theorem P0:ld (.sl S r)=none:=gaa rfl rfl
theorem O0{d:D}:ld (.pt d)=none:=gaa rfl rfl
theorem BR:ld .dead=none:=gaa rfl rfl
theorem DV:ld (.own x y)=some x:=gaa rfl rfl
theorem EV{u v:Nat}:ld (.ref x y u v)=some x:=gaa rfl rfl
theorem CR{u v:Nat}:ld (.view x y u v)=some x:=gaa rfl rfl
theorem hd_n{l:List Nat}{ps:List (List Nat)}:(l::ps).headD []=l:=gaa rfl rfl
theorem tl_n{l:List Nat}{ps:List (List Nat)}:(l::ps).tail=ps:=gaa rfl rfl
theorem hd_0:([]:List (List Nat)).headD []=[]:=gaa rfl rfl
theorem tl_0:([]:List (List Nat)).tail=[]:=gaa rfl rfl
end
def zy:=(And.intro (And.intro (And.intro (And.intro (And.intro (And.intro (And.intro (And.intro @H9 @L9) (And.intro @KU @ZU)) (And.intro (And.intro @LZ @TZ) (And.intro @JZ @SZ))) (And.intro (And.intro (And.intro @I9 @M9) (And.intro @EU @TU)) (And.intro (And.intro @wQ @QQ) (And.intro @MZ @UZ)))) (And.intro (And.intro (And.intro (And.intro @xQ @RQ) (And.intro @nN @zN)) (And.intro (And.intro @GU @VU) (And.intro @JQ @dR))) (And.intro (And.intro (And.intro @JU @YU) (And.intro @IQ @cR)) (And.intro (And.intro @yQ @SQ) (And.intro @zQ @TQ))))) (And.intro (And.intro (And.intro (And.intro (And.intro @AQ @UQ) (And.intro @vQ @PQ)) (And.intro (And.intro @BQ @VQ) (And.intro @mK @yK))) (And.intro (And.intro (And.intro @PZ @XZ) (And.intro @MU @cV)) (And.intro (And.intro @mN @yN) (And.intro @nK @zK)))) (And.intro (And.intro (And.intro (And.intro @oN @AN) (And.intro @FU @UU)) (And.intro (And.intro @G9 @K9) (And.intro @NZ @VZ))) (And.intro (And.intro (And.intro @NU @dV) (And.intro @LU @aV)) (And.intro (And.intro @pN @BN) (And.intro @FQ @YQ)))))) (And.intro (And.intro (And.intro (And.intro (And.intro (And.intro @GQ @ZQ) (And.intro @IU @XU)) (And.intro (And.intro @HU @WU) (And.intro @KQ @eR))) (And.intro (And.intro (And.intro @DQ @XQ) (And.intro @oK @AK)) (And.intro (And.intro @OZ @WZ) (And.intro @DU @SU)))) (And.intro (And.intro (And.intro (And.intro @HQ @aR) (And.intro @CQ @WQ)) (And.intro (And.intro @CS @T2) (And.intro @OX @BS))) (And.intro (And.intro (And.intro @WO @q9) (And.intro @O9 @W1)) (And.intro (And.intro @B2 @N0) (And.intro @AV @id_v))))) (And.intro (And.intro (And.intro (And.intro (And.intro @GY @KY) (And.intro @P3 @O3)) (And.intro (And.intro @N3 @qT) (And.intro @IY @JY))) (And.intro (And.intro (And.intro @rT @HY) (And.intro @pT @id_map)) (And.intro (And.intro @DR @FN) (And.intro @fX @gS)))) (And.intro (And.intro (And.intro (And.intro @E1 @F1) (And.intro @ap_0 @ap_s)) (And.intro (And.intro @T8 @U8) (And.intro @V8 @W8))) (And.intro (And.intro (And.intro @aaa @CV) (And.intro @FV @P0)) (And.intro (And.intro @O0 @BR) (And.intro @DV @EV))))))) (And.intro (And.intro (And.intro (And.intro @CR @hd_n) (And.intro @tl_n @hd_0)) (And.intro (And.intro @tl_0 @fZ) (And.intro @ET @gZ))) (And.intro (And.intro (And.intro @lq_v @dZ) (And.intro @R8 @Q8)) (And.intro @P8 @eZ))))
section
variable {P:Program} {N:Nat} {ops:Array Oper} {Q:Exit->Act->World->Prop} {K:St->Prop} {rl:List RI} {q:Nat} {ps:List (List Nat)} {pl:List (Option Nat)}
def QS(R:List (List Nat)->St->Prop) (fp:List (List Nat)) (p:List Nat) (k:Nat) (dst:Option Tmp) (i:I) (s:St):Prop:=
 Jy fp [k] p=true/\match Xk s k i with
  |some (d,e)=>R (fp++[[k]]) (({ s with m:=s.m.set k e }:St).put dst d)
  |none=>False
def xF(P:Program) (k:FuncId) (ds:List D) (ids:List Nat) (fp:List (List Nat)) (p:List Nat) (x:Nat) (f:D->Ent->Prop) (s:St):Prop:=
 (ids.elem x&&Jy fp ids p)=true/\∃d e,((∀id∈ids,id<s.m.length)/\∀m,(∀id∈ids,m[id]?=s.m[id]?)->CallT P k ds m λd' m'=>d'=d/\m'=m.set x e)/\f d e
def cwY(P:Program) (R:List (List Nat)->St->Prop) (fp:List (List Nat)) (p:List Nat) (x:Nat) (k:FuncId) (dst:Option Tmp) (args:List Operand) (s:St):Prop:=
 xF P k (args.map s.ev) (vb s args) fp p x (λd e=>R (fp++[vb s args]) (({ s with m:=s.m.set x e }:St).put dst d)) s
def Gf(P:Program):List (Option Nat)->List (List Nat)->Nat->List RI->(St->Prop)->List (List Nat)->St->Prop
 |_,_,0,l,K,_,s=>Ug P l K s
 |_,_,_+1,[],_,_,_=>False
 |some k::pl,ps,q+1,.op dst none i::l,K,fp,s=>QS (Gf P pl ps.tail q l K) fp (ps.headD []) k dst i s
 |none::pl,ps,q+1,.op dst none i::l,K,fp,s=>aN (Gf P pl ps.tail q l K) fp (ps.headD []) dst i s
 |none::pl,ps,q+1,.op dst (some (t,b)) i::l,K,fp,s=>
  gD (s.t.getD t .dead) b (aN (Gf P pl ps.tail q l K) fp (ps.headD []) dst i) ⟨s.t.set t (.v (.bool b)),s.m⟩ (ZZ (Gf P pl ps.tail q l K) fp (ps.headD []) dst i) ⟨s.t.set t (.v (.bool (!b))),s.m⟩ s
 |none::pl,ps,q+1,.call dst none (.func k) args::l,K,fp,s=>xO P (Gf P pl ps.tail q l K) fp (ps.headD []) k dst args s
 |some x::pl,ps,q+1,.call dst none (.func k) args::l,K,fp,s=>cwY P (Gf P pl ps.tail q l K) fp (ps.headD []) x k dst args s
 |_,_,_+1,_::_,_,_,_=>False
theorem Ov:∀{q:Nat}{l:List RI}{pl:List (Option Nat)}{ps:List (List Nat)}{fp:List (List Nat)}{s:St},Gf P pl ps q l K fp s->Ql P pl ps fp q l K s
 |0,l,pl,ps,fp,s,h=>by simp only[Gf]at h;simp only[Ql];exact Wr h
 |q+1,[],pl,ps,fp,s,h=>by simp[Gf]at h
 |q+1,.op dst none i::l,some k::pl,ps,fp,s,h=>by
  simp only[Gf,QS]at h;obtain⟨h1,h2⟩:=h;split at h2
  .rename_i d e hf;simp only[Ql];exact⟨h1,trivial,d,e,hf,Ov h2⟩
  simp_all
 |q+1,.op dst none i::l,none::pl,ps,fp,s,h=>by
  simp only[Gf,aN]at h;obtain⟨h1,h0,h2⟩:=h;simp only[Ql,gate];obtain⟨d,m',h3,h4⟩:=(Qp _ _).1 h2;exact⟨h1,d,m',h0,h3,Ov h4⟩
 |q+1,.op dst (some (t,b)) i::l,none::pl,ps,fp,⟨st,sm⟩,h=>by
  simp only[Gf]at h;have h:=lD rfl h;have hrid:∀s,Hk s (.op dst (some (t,b)) i)=Hk s (.op dst none i):=λ_=>rfl;simp only[Ql];show Jy fp (Hk _ (.op dst (some (t,b)) i)) (ps.headD [])=true/\_;rw[hrid];split at h
  .simp_all
  .grind[gate]
  .rename_i c b' hg;refine⟨?_,?_⟩
   .by_cases hc:c=b'
    .exact(h.1 hc).1
    .exact(h.2 hc).1
   rw[hg];by_cases hc:c=b'
   .obtain⟨h1,h0,h2⟩:=h.1 hc;obtain⟨d,m',h3,h4⟩:=(Qp _ _).1 h2;exact⟨λ_=>⟨d,m',h0,h3,Ov h4⟩,λhn=>(hn hc).elim⟩
   .obtain⟨h1,h2⟩:=h.2 hc;exact⟨λhn=>(hc hn).elim,λ_=>Ov h2⟩
 |q+1,.call dst none (.func k) args::l,none::pl,ps,fp,s,h=>by
  simp only[Gf,xO,jv]at h;obtain⟨h0,d,h1,h2⟩:=h;simp only[Ql,gate];exact⟨h0,d,by simp_all,Ov h2⟩
 |q+1,.op dst g i::l,[],ps,fp,s,h=>by simp[Gf]at h
 |q+1,.op dst (some g) i::l,some k::pl,ps,fp,s,h=>by simp[Gf]at h
 |q+1,.call dst g f args::l,[],ps,fp,s,h=>by simp[Gf]at h
 |q+1,.call dst none (.func k) args::l,some x::pl,ps,fp,s,h=>by
  simp only[Gf,cwY,xF]at h;obtain⟨h0,d,e,h1,h2⟩:=h;simp only[paa,List.elem_eq_mem,decide_eq_true_eq]at h0;obtain⟨h0,h0'⟩:=h0;simp only[Ql];exact⟨trivial,h0,h0',d,e,by simp_all,Ov h2⟩
 |q+1,.call dst (some g) f args::l,some x::pl,ps,fp,s,h=>by simp[Gf]at h
 |q+1,.call dst none (.tmp _) args::l,some x::pl,ps,fp,s,h=>by simp[Gf]at h
 |q+1,.call dst none (.const _) args::l,some x::pl,ps,fp,s,h=>by simp[Gf]at h
 |q+1,.call dst none (.global _) args::l,some x::pl,ps,fp,s,h=>by simp[Gf]at h
 |q+1,.call dst none (.meth _ _) args::l,some x::pl,ps,fp,s,h=>by simp[Gf]at h
 |q+1,.call dst (some g) f args::l,none::pl,ps,fp,s,h=>by simp[Gf]at h
 |q+1,.call dst none (.tmp _) args::l,none::pl,ps,fp,s,h=>by simp[Gf]at h
 |q+1,.call dst none (.const _) args::l,none::pl,ps,fp,s,h=>by simp[Gf]at h
 |q+1,.call dst none (.global _) args::l,none::pl,ps,fp,s,h=>by simp[Gf]at h
 |q+1,.call dst none (.meth _ _) args::l,none::pl,ps,fp,s,h=>by simp[Gf]at h
theorem T.ao(hm:P.follows .mixedOrders=true) {cuts:List Nat}{bs:List (List Nat)}{l:List RI}{K:Exit->St->Prop}{s:St}(ps:List (List Nat)) (pl:List (Option Nat)) (hok:Rs bs l q ps pl=true) (hpl:Cn s.m pl=true) (h:Gf P pl ps q l (K .normal) [] s):T P N (.any cuts q bs l) K s:=
 T.C1 hm ps pl hok hpl (Ov h)
def Ix:List (Option Nat)->List RI->Bool
 |none::pl,_::l=>Ix pl l
 |some _::pl,.call ..::l=>Ix pl l
 |[],_=>true
 |_,_=>false
theorem KD:∀{pl:List (Option Nat)}{l:List RI},Ix pl l=true->∀i p,pO pl i=some p->∃a b c d,l[i]?=some (.call a b c d)
 |[],l,_,i,p,h=>by grind[pO]
 |none::pl,[],h,_,_,_=>by grind[Ix]
 |some _::pl,[],h,_,_,_=>by grind[Ix]
 |none::pl,y::l,h,0,p,h2=>by grind[pO]
 |none::pl,y::l,h,i+1,p,h2=>by
  simp only[Ix]at h;simpa using KD h i p (by grind[pO])
 |some x::pl,.call a b c d::l,h,0,p,h2=>⟨a,b,c,d,rfl⟩
 |some x::pl,.call a b c d::l,h,i+1,p,h2=>by
  simp only[Ix]at h;simpa using KD h i p (by grind[pO])
 |some x::pl,.op a b c::l,h,_,_,_=>by grind[Ix]
theorem T.dp(hm:P.follows .mixedOrders=true) {l:List RI}{K:Exit->St->Prop}{s:St}(ps:List (List Nat)) (pl:List (Option Nat)) (hps:ps=Hv q) (hcl:Ix pl l=true) (hpl:Cn s.m pl=true) (h:Gf P pl ps q l (K .normal) [] s):T P N (.draw q l) K s:=by
 subst hps;exact T.Q2 hm (Hv q) pl (KD hcl) GH hpl (Ov h)
end
section
variable {P:Program} {pl:List (Option Nat)} {ps:List (List Nat)} {q k t:Nat} {b:Bool} {dst:Option Tmp} {i:I} {l:List RI} {K:St->Prop} {fp:List (List Nat)} {s:St} {st:List D} {m:List Ent} {args:List Operand} {R:List (List Nat)->St->Prop} {p:List Nat} {z:D} {S:Nat} {x:Operand}
theorem AS:Gf P pl ps 0 l K fp s=Ug P l K s:=by simp only[Gf]
theorem MX:Gf P (some k::pl) ps (q+1) (.op dst none i::l) K fp s=QS (Gf P pl ps.tail q l K) fp (ps.headD []) k dst i s:=by simp only[Gf]
theorem O2:Gf P (none::pl) ps (q+1) (.op dst none i::l) K fp s=aN (Gf P pl ps.tail q l K) fp (ps.headD []) dst i s:=by simp only[Gf]
theorem NX:Gf P (none::pl) ps (q+1) (.op dst (some (t,b)) i::l) K fp ⟨st,m⟩=gD (st.getD t .dead) b (aN (Gf P pl ps.tail q l K) fp (ps.headD []) dst i) ⟨st.set t (.v (.bool b)),m⟩ (ZZ (Gf P pl ps.tail q l K) fp (ps.headD []) dst i) ⟨st.set t (.v (.bool (!b))),m⟩ ⟨st,m⟩:=by simp only[Gf]
theorem zS:Gf P (none::pl) ps (q+1) (.call dst none (.func k) args::l) K fp s=xO P (Gf P pl ps.tail q l K) fp (ps.headD []) k dst args s:=by simp only[Gf]
theorem VO{x:Nat}:Gf P (some x::pl) ps (q+1) (.call dst none (.func k) args::l) K fp s=cwY P (Gf P pl ps.tail q l K) fp (ps.headD []) x k dst args s:=by simp only[Gf]
theorem C2{R:List (List Nat)->St->Prop}{p:List Nat}{x:Nat}:cwY P R fp p x k dst args s=xF P k (args.map s.ev) (vb s args) fp p x (λd e=>R (fp++[vb s args]) (({ s with m:=s.m.set x e }:St).put dst d)) s:=gaa rfl rfl
theorem ZX:QS R fp p k dst i s=(Jy fp [k] p=true/\match Xk s k i with|some (d,e)=>R (fp++[[k]]) (({ s with m:=s.m.set k e }:St).put dst d)|none=>False):=gaa rfl rfl
theorem kP:Xk s k (.alloc S z)=(match s.m[k]? with|some (.live S' Ja [])=>if S'=S then some (.ref k (Ja+1) 0 0,.live S (Ja+1) [z])else none|_=>none):=gaa rfl rfl
theorem XX:Xk s k (.box S x)=(match s.m[k]? with|some (.live S' Ja [])=>if S'=S/\(s.ev x).ok=true/\Lr S (s.ev x).cells=true then some (.ref k (Ja+1) 0 0,.live S (Ja+1) [s.ev x])else none|_=>none):=by simp only[ep];rfl
theorem YX{n:Nat}{qs:List (Nat×Operand)}:Xk s k (.bslice S n z qs)=(match s.m[k]? with|some (.live S' Ja [])=>if S'=S then(Yb s S qs (jaa n z)).map λl=>(.own k (Ja+1),.live S (Ja+1) l)else none|_=>none):=gaa rfl rfl
end
def zo:=(And.intro (And.intro (And.intro (And.intro @AS @MX) (And.intro @O2 @NX)) (And.intro (And.intro @zS @VO) (And.intro @C2 @ZX))) (And.intro (And.intro @kP @XX) @YX))
theorem IL{G G':Gh}{w w':World}(hle:SubF G w G' w') {d d':D}(hd:∀u,VRel G w d u->VRel G' w' d' u) {post:List D}(hpost:la post=true) :
 ∀{pre:List D} {us:List Value},la pre=true->VsRel G w (pre++d::post) us->VsRel G' w' (pre++d'::post) us
 |[],us,_,h=>by
  simp only[cab,VsRel]at h⊢;obtain⟨u,r,rfl,h1,h2⟩:=h;exact⟨u,r,rfl,hd u h1,VsRel.free hle hpost h2⟩
 |p::pre,us,hp,h=>by
  simp only[la,paa]at hp;simp only[Naa,VsRel]at h⊢;obtain⟨u,r,rfl,h1,h2⟩:=h;exact⟨u,r,rfl,VRel.free hle hp.1 h1,IL hle hd hpost hp.2 h2⟩
section
variable {P:Program}
end
variable {P:Program}
def YV(P:Program) (f:FuncId) (ds:List D) (m:List Ent) (R:D->List Ent->Prop):Prop:=
 Enters P f/\∀(G:Gh) (w:World) (vs:List Value),VsRel G w ds vs->Inv G w m->
  Calls P f vs.toArray w λe w'=>∃v d m' G',e=.returned v/\R d m'/\VRel G' w' d v/\Inv G' w' m'/\StepN 0 G w m G' w' m'
theorem qO{f:FuncId}{F:Fun}{ds:List D}{m:List Ent}{R:D->List Ent->Prop}(hF:Vt P f=some F) (hname:((P.funcs[f]?).map λfn=>fn.name == "runtime.NumGoroutine")=some false)
 (h:T P 0 F.code (Nx F.results R) ⟨ds++jaa (F.ntmps-ds.length) .dead,m⟩):YV P f ds m R:=by
 unfold Vt at hF;split at hF
 .rename_i fn hfn;split at hF
  .rename_i b r hb hres;simp only[haa]at hF;obtain⟨c,hc,rfl⟩:=hF;refine⟨⟨fn,hfn,by simp_all,by simp_all⟩,λG w vs hv hi=>?_⟩;refine calls_of_wp hfn hb ?_;have hlen:=hv.length;have hr:Rel G w { tmps:=vs.toArray++Array.replicate (fn.ntmps-vs.toArray.size) undef,defers:=[] } ⟨ds++jaa (fn.ntmps-ds.length) .dead,m⟩:=by
    refine⟨?_,hi,rfl⟩;simp only[Array.toList_append,Array.toList_replicate,List.size_toArray,hlen];exact hv.append (tH _ _ _)
   refine Code.wp_mono ?_ (h b hc G w _ (wab _) hr);rintro e a' w' ⟨s',G',hK,hr',hs0⟩;have fin:(∃ds,qb s' r=some ds/\R (um ds) s'.m)->a'.defers=[]/\∃v,(results fn a'.tmps).run P w'=.ok v w'/\∃v_1 d m' G',Ending.returned v=.returned v_1/\R d m'/\VRel G' w' d v_1/\Inv G' w' m'/\StepN 0 G w m G' w' m':=by
    rintro⟨es,hes,hR⟩;obtain⟨v,hrun,hv'⟩:=EB (F:=⟨fn.ntmps,r,c⟩) hres hr' hes;exact⟨hr'.defers,v,hrun,v,_,_,G',rfl,hR,hv',hr'.inv,hs0⟩
   cases e with
   |normal=>exact fin hK
   |ret=>exact fin hK
   |_=>exact hK.elim
  simp_all
 simp_all
theorem cY{k id S Ja:Nat}{l:List D}{m:List Ent}{pre post:List D}{o:D}
 (hid:m[id]?=some (.live S Ja l)) (hpre:la pre=true) (hpost:la post=true) (hl:la l=true)
 (h:YV P k (pre++.own 0 0::post) [.live S 0 l] λd m'=>Sbs [] m' [d] [o]) :
 CallT P k (pre++.own id Ja::post) m λd m'=>d=o/\m'=m.set id .gone:=by
 refine⟨h.1,λG w vs hv hi=>?_⟩;have hlen:id<m.length:=(Haa.1 hid).1;obtain⟨eV,eS,eN,eC,eB⟩:=hi.ent id _ hid;have hc0:SubF G w ⟨G.F,1,λ_=>G.B id,λ_=>0,λ_=>G.S id,λ_=>G.N id,λ_=>G.C id⟩ w:=⟨λ_ h=>h,λ_ _=>rfl⟩;have hv':=IL hc0 (d:=.own id Ja) (d':=.own 0 0) (λu hu=>by
  simp only[VRel]at hu⊢
  grind) hpost hpre hv
 have hic:Inv ⟨G.F,1,λ_=>G.B id,λ_=>0,λ_=>G.S id,λ_=>G.N id,λ_=>G.C id⟩ w [.live S 0 l]:=by
  refine⟨rfl,hi.F,?_,?_,hi.gl.bare λ_ h=>h⟩
  .intro i e he
   cases i with
   |zero=>
    simp at he;subst he;refine⟨rfl,eS,eN,eC,?_⟩;rcases eB with h|⟨b,cs,T,h1,h2,h3,h4,h5⟩
    .simp_all
    .exact .inr ⟨b,cs,T,h1,h2,h3,h4,Qa.free hc0 rfl hl h5⟩
   |succ i=>simp at he
  grind
 have own0:∀b,Xd ⟨G.F,1,λ_=>G.B id,λ_=>0,λ_=>G.S id,λ_=>G.N id,λ_=>G.C id⟩ [.live S 0 l] b->G.B id=some b:=by
  rintro b ⟨i,e,he,-,hB⟩;omega
 refine(h.2 _ w vs hv' hic).mono ?_;rintro e w' ⟨v,d,m',G',rfl,hR,hvd,hi',hs'⟩;have live1:(Ent.live S Ja l).isLive=true:=rfl;have hT:=(hR.rel hi' (λi j v h=>by grind)).1 [v] (by simp only[VsRel];simp_all);simp only[VsRel]at hT;obtain⟨u,us,he,h1,_⟩:=hT;injection he with he _;subst he;have hfree:=nE hR;simp only[la,taa]at hfree;have hle:Le G w ⟨λb=>G'.F b\/Xd G' m' b,G.n,G.B,G.V,G.S,G.N,G.C⟩ w':=by
  refine⟨λb hb=>.inl (hs'.F b hb),λb hb=>hs'.heap b hb,saa _,λi _=>.inl (by simp)⟩
 have olt:∀i x,m[i]?=some x->x.isLive=true->∀b,G.B i=some b->b<w.heap.size/\¬G.F b:=λi x hx hl b hb=>(hi.ent i x hx).lt hl hb;have notO:∀i x,m[i]?=some x->x.isLive=true->i≠id->∀b,G.B i=some b->G.B id≠some b:=λi x hx hlx hne b hb hB=>hne (hi.apart i id x _ hx hid hlx live1 b hb hB);have hget:∀i x,(m.set id .gone)[i]?=some x->(m[i]?=some x/\i≠id)\/(i=id/\x=.gone):=by
  grind
 refine⟨v,o,_,⟨λb=>G'.F b\/Xd G' m' b,G.n,G.B,G.V,G.S,G.N,G.C⟩,rfl,⟨rfl,rfl⟩,?_,⟨by simp[hi.n],?_,?_,?_,hi'.gl.bare λ_ h=>.inl h⟩,⟨hle,hs'.os,hs'.tape,hs'.output,hs'.size,?_,?_,?_⟩⟩
 .refine VRel.free (G:=Nb G' m' []) ⟨?_,λ_ _=>rfl⟩ hfree h1;rintro b (hb|⟨hb,_⟩)
  all_goals simp_all
 .rintro b (hb|hb)
  .exact hi'.F b hb
  .exact(Xd.lt hi' hb).1
 .intro i x hx;rcases hget i x hx with⟨h1,h2⟩|⟨rfl,rfl⟩
  .by_cases hlx:x.isLive=true
   .refine(hi.ent i x h1).mono hle (by simp) (λb hb=>?_) (λb hb _ hF=>?_)
    .exact hs'.keep b (olt i x h1 hlx b hb).1 λho=>notO i x h1 hlx h2 b hb (own0 b ho)
    .rcases hF with hF|hF
     .rcases hs'.newF b (olt i x h1 hlx b hb).1 hF with h|h
      all_goals grind
     .exact(notO i x h1 hlx h2 b hb (own0 b (hs'.newB b (olt i x h1 hlx b hb).1 hF))).elim
   .cases x with
    |gone=>trivial
    |_=>grind[Ent.isLive]
  .trivial
 .intro i j x y hx hy lx ly b hb hb';rcases hget i x hx with⟨h1,h2⟩|⟨rfl,rfl⟩
  .rcases hget j y hy with⟨h3,h4⟩|⟨rfl,rfl⟩
   .exact hi.apart i j x y h1 h3 lx ly b hb hb'
   grind
  grind
 .intro b hb hno;exact hs'.keep b hb λho=>hno ⟨id,_,hid,live1,own0 b ho⟩
 .intro b hb hF;rcases hF with hF|hF
  .rcases hs'.newF b hb hF with h|h
   .simp_all
   .exact .inr ⟨id,_,hid,live1,own0 b h⟩
  .exact .inr ⟨id,_,hid,live1,own0 b (hs'.newB b hb hF)⟩
 .rintro b hb ⟨i,x,hx,lx,hB⟩;rcases hget i x hx with⟨h1,h2⟩|⟨rfl,rfl⟩
  .exact⟨i,x,h1,lx,hB⟩
  .cases lx
def HB(P:Program) (k:Nat) (pre post:List D) (S:Nat) (l:List D) (o:D):Prop:=∀m id Ja,m[id]?=some (.live S Ja l)->CallT P k (pre++.own id Ja::post) m λd m'=>d=o/\m'=m.set id .gone
def MN(P:Program) (k:Nat) (pre post:List D) (S:Nat) (l l':List D) (o:D):Prop:=∀m id Ja,m[id]?=some (.live S Ja l)->CallT P k (pre++.own id Ja::post) m λd m'=>d=o/\m'=m.set id (.live S Ja l')
theorem HB.at{k:Nat}{F:Fun}{pre post:List D}{S:Nat}{l:List D}{o:D}(n:Nat) (hF:Vt P k=some F) (hname:((P.funcs[k]?).map λfn=>fn.name == "runtime.NumGoroutine")=some false)
 (hpre:la pre=true) (hpost:la post=true) (hl:la l=true) (hn:F.ntmps=(pre++.own 0 0::post).length+n)
 (h:T P 0 F.code (DE F.results o) ⟨(pre++.own 0 0::post)++Tm.ds n [],[.live S 0 l]⟩):HB P k pre post S l o:=by
 intro m id Ja hm;refine cY hm hpre hpost hl (qO hF hname ?_);rw[hn,aac,←sA];refine T.X1 (h.mono ?_);have key:∀(e:Exit) (s:St),(∀s',Nx F.results (λd m'=>Sbs [] m' [d] [o]) e s' = ∃ds,qb s' F.results=some ds/\Sbs [] s'.m [um ds] [o])->(∃S,Tells 0 s S/\∃ds,qb S F.results=some ds/\Sbs [] S.m [um ds] [o])->KK 0 (Nx F.results λd m'=>Sbs [] m' [d] [o]) e s:=by
  intro e s he ⟨S,h1,h2⟩ G w a hN hr;obtain⟨G',h3,h4⟩:=xp h1 hN hr
  grind
 intro e s hs
 cases e with
 |normal=>exact key _ s (λ_=>rfl) hs
 |ret=>exact key _ s (λ_=>rfl) hs
 |_=>exact(hs:False).elim
theorem PK{k id S Ja:Nat}{pre post l ds:List D}{o:D}{m:List Ent}{f:D->List Ent->Prop}(h:HB P k pre post S l o) (hds:ds=pre++.own id Ja::post) (hm:m[id]?=some (.live S Ja l)) (hf:f o (m.set id .gone)):vf P k ds m f:=by
 subst hds;exact Cj (h m id Ja hm) hf
theorem oS{k id S Ja:Nat}{pre post l l' ds:List D}{o:D}{m:List Ent}{f:D->List Ent->Prop}(h:MN P k pre post S l l' o) (hds:ds=pre++.own id Ja::post) (hm:m[id]?=some (.live S Ja l)) (hf:f o (m.set id (.live S Ja l'))):vf P k ds m f:=by
 subst hds;exact Cj (h m id Ja hm) hf
theorem FF{k:Nat}{vs:List Value}{v:Value}(hE:Enters P k) (h:∀w,Calls P k vs.toArray w λe w'=>e=.returned v/\w'=w):Den P k (vs.map .v) (.v v):=by
 refine λm=>⟨hE,λG w us hv hi=>?_⟩;have:∀(vs us:List Value),VsRel G w (vs.map .v) us->us=vs:=by
  intro vs
  induction vs with
  |nil=>intro us h;simpa [VsRel] using h
  |cons x l ih=>
   intro us h;simp only[Maa,VsRel,VRel]at h
   grind
 obtain rfl:=this vs us hv;refine(h w).mono ?_;rintro e w' ⟨rfl,rfl⟩;exact⟨_,_,_,G,rfl,⟨rfl,rfl⟩,by simp[VRel],hi,Step.refl _ _ _⟩
open Go.Sort
variable {P:Program}
def eI(n:Int):D:=.v (.int .i64 n)
theorem gE{G:Gh}{w:World}{b:Nat}:∀{zs:List Int}{off:Nat},Qa G w b 1 (zs.map eI) off->∀j (h:j<zs.length),w.cell? ⟨b,off+j,none⟩=some (.int .i64 zs[j])
 |[],_,_,j,h=>absurd h (Nad j)
 |z::zs,off,hr,j,h=>by
  simp only[Maa,Qa]at hr;obtain⟨⟨u,h1,h2,h3⟩,h4⟩:=hr;simp only[eI,VRel]at h1;subst h1
  cases j with
  |zero=>exact(h3 0 (.int .i64 z) rfl).2
  |succ j=>
   have:=gE h4 j (by simp_all)
   grind
theorem vK{G:Gh}{w:World}{b:Nat}:∀{zs:List Int}{off:Nat},(∀j (h:j<zs.length),w.cell? ⟨b,off+j,none⟩=some (.int .i64 zs[j]))->Qa G w b 1 (zs.map eI) off
 |[],_,_=>by simp[Qa]
 |z::zs,off,hr=>by
  simp only[Maa,Qa];refine⟨⟨.int .i64 z,by simp[eI,VRel],rfl,?_⟩,vK λj h=>?_⟩
  .intro j c hc
   cases j with
   |zero=>
    have:c=.int .i64 z:=by grind[Value.cells]
    subst this;exact⟨rfl,hr 0 (Cad _)⟩
   |succ j=>grind[Value.cells]
  .have:=hr (j+1) (by simp_all)
   grind
theorem holds_of{w:World}{b off:Nat}{cs:Array Value}{T:TypeId}{zs:List Int}(hb:w.heap[b]?=some (.cells cs T (0,0))) (h:∀j (h:j<zs.length),w.cell? ⟨b,off+j,none⟩=some (.int .i64 zs[j])):Holds (Value.int .i64) w b off zs.toArray:=by
 intro j hj
 grind[World.frozen?]
theorem xL{w:World}{b off:Nat}{cs:Array Value}{T:TypeId}{ys:List Int}{n:Nat}{os:Array Obj}(hb:w.heap[b]?=some (.cells cs T (0,0))) (hlen:off+ys.length<=cs.size) {w':World}(hw:w'=grow (putRow (Value.int .i64) (Sort.ahead w n) b off ys.toArray) os) :
 w'.os=w.os/\w'.tape=w.tape/\w'.output=w.output/\w.heap.size<=w'.heap.size/\(∀k,k<w.heap.size->k≠b->w'.heap[k]?=w.heap[k]?)/\
  w'.heap[b]?=some (.cells (putCells (Value.int .i64) off ys.toArray cs) T (0,0))/\∀j (h:j<ys.length),w'.cell? ⟨b,off+j,none⟩=some (.int .i64 ys[j]):=by
 subst hw;have hbs:b<w.heap.size:=by
  grind
 have hheap:(grow (putRow (Value.int .i64) (Sort.ahead w n) b off ys.toArray) os).heap=w.heap.modify b (onCells (putCells (Value.int .i64) off ys.toArray))++os:=rfl;have hbb:(grow (putRow (Value.int .i64) (Sort.ahead w n) b off ys.toArray) os).heap[b]?=some (.cells (putCells (Value.int .i64) off ys.toArray cs) T (0,0)):=by
  rw[hheap,Array.getElem?_append_left (by simp_all),Array.getElem?_modify,if_pos rfl,hb];rfl
 refine⟨rfl,rfl,rfl,?_,?_,hbb,?_⟩
 all_goals grind[World.cell?,putCells]
theorem uJ{k:FuncId}(hE:Enters P k) {id Ja:Nat}{m:List Ent}{zs ys:List Int}(hm:m[id]?=some (.live 1 Ja (zs.map eI))) (hlen:ys.length=zs.length)
 (h1:∀w b off cap,Holds (Value.int .i64) w b off zs.toArray->b<w.heap.size->Calls P k #[.slice (some ⟨b,off,none⟩) zs.length cap] w λe w'=>e=.returned (.tuple #[])/\∃n os,w'=grow (putRow (Value.int .i64) (Sort.ahead w n) b off ys.toArray) os)
 (h0:∀w cap,Calls P k #[.slice none 0 cap] w λe w'=>e=.returned (.tuple #[])/\w'=w) :
 CallT P k [.own id Ja] m λd m'=>d=.tup []/\m'=m.set id (.live 1 Ja (ys.map eI)):=by
 refine⟨hE,λG w vs hv hi=>?_⟩;obtain⟨eV,eS,eN,eC,eB⟩:=hi.ent id _ hm;simp only[VsRel,VRel]at hv;obtain⟨u,r,rfl,⟨a,n,c,rfl,g1,g2,g3⟩,rfl⟩:=hv;obtain⟨rfl,rfl,rfl⟩:=g3 eV;simp only[Dab]at eN eC;rcases eB with⟨hB,hC⟩|⟨b,cs,T,hB,hF,hb,hc,hr⟩
 .have h00:=congrArg uad hC;dsimp only at h00;have hz:zs=[]:=Caa (by omega);have hy:ys=[]:=Caa (by omega);subst hz hy;rw[hB,eN];refine(h0 w _).mono ?_;rintro e w' ⟨rfl,rfl⟩;refine⟨_,_,_,G,rfl,⟨rfl,rfl⟩,by simp[VRel,VsRel],?_,?_⟩
  .have:m.set id (.live 1 Ja (([]:List Int).map eI))=m:=by
    apply Iab
    grind
   simp_all
  .have:m.set id (.live 1 Ja (([]:List Int).map eI))=m:=by
    apply Iab
    grind
   grind[Step.refl]
 .rw[hB,eN];have hbs:b<w.heap.size:=by
   grind
  refine(h1 w b _ _ (holds_of hb (gE hr)) hbs).mono ?_;rintro e w' ⟨rfl,n,os,hw⟩;obtain⟨p1,p2,p3,p4,p5,p6,p7⟩:=xL hb (by omega) hw;have hg:=He (w':=w') hi hm rfl (e':=.live 1 Ja (ys.map eI)) rfl (G.B id) Ja (G.N id) (G.C id) (.inr ⟨eV.symm,rfl,rfl,rfl⟩) p1 p2 p3 p4
   (λk hk hne=>p5 k hk (λh=>hne (by rw[hB,h]))) (λk hk=>.inl hk) (by
    refine⟨by simp[Gh.oe],by grind[Gh.oe],by grind[Gh.oe],by grind[Gh.oe],.inr ⟨b,_,T,by grind[Gh.oe],hF,p6,?_,vK (by grind[Gh.oe])⟩⟩
    grind[Gh.oe,putCells])
  exact⟨_,_,_,_,rfl,⟨rfl,rfl⟩,by simp[VRel,VsRel],hg.1,hg.2⟩
theorem tJ{k:FuncId}(hE:Enters P k) {id Ja:Nat}{m:List Ent}{zs ys:List Int}(hm:m[id]?=some (.live 1 Ja (zs.map eI))) (hlen:ys.length<=zs.length)
 (h1:∀w b off cap,Holds (Value.int .i64) w b off zs.toArray->zs.length<=cap->Calls P k #[.slice (some ⟨b,off,none⟩) zs.length cap] w λe w'=>e=.returned (.slice (some ⟨b,off,none⟩) ys.length cap)/\∃n xs,xs.length+ys.length=zs.length/\w'=grow (putRow (Value.int .i64) (Sort.ahead w n) b off (ys++xs).toArray) #[])
 (h0:∀w cap,Calls P k #[.slice none 0 cap] w λe w'=>e=.returned (.slice none 0 cap)/\w'=w) :
 CallT P k [.own id Ja] m λd m'=>d=.own id (Ja+1)/\m'=m.set id (.live 1 (Ja+1) (ys.map eI)):=by
 refine⟨hE,λG w vs hv hi=>?_⟩;obtain⟨eV,eS,eN,eC,eB⟩:=hi.ent id _ hm;simp only[VsRel,VRel]at hv;obtain⟨u,r,rfl,⟨a,n,c,rfl,g1,g2,g3⟩,rfl⟩:=hv;obtain⟨rfl,rfl,rfl⟩:=g3 eV;simp only[Dab]at eN eC;rcases eB with⟨hB,hC⟩|⟨b,cs,T,hB,hF,hb,hc,hr⟩
 .have h00:=congrArg uad hC;dsimp only at h00;have hz:zs=[]:=Caa (by omega);have hy:ys=[]:=Caa (by omega);subst hz hy;rw[hB,eN];refine(h0 w _).mono ?_;rintro e w' ⟨rfl,rfl⟩;have hg:=He (w':=w') hi hm rfl (e':=.live 1 (Ja+1) (([]:List Int).map eI)) rfl none (Ja+1) 0 (G.C id) (.inl (by omega)) rfl rfl rfl (saa _)
   (λk hk hne=>rfl) (λk hk=>by grind) (by
    refine⟨by simp[Gh.oe],by grind[Gh.oe],by simp[Gh.oe],by simp,.inl ⟨by simp[Gh.oe],by grind[Gh.oe]⟩⟩)
  refine⟨_,_,_,_,rfl,⟨rfl,rfl⟩,?_,hg.1,hg.2⟩;simp only[VRel];exact⟨_,_,_,rfl,g1,by simp[Gh.oe],λ_=>by simp[Gh.oe]⟩
 .rw[hB,eN];refine(h1 w b _ _ (holds_of hb (gE hr)) eC).mono ?_;rintro e w' ⟨rfl,n,xs,hx,hw⟩;obtain⟨p1,p2,p3,p4,p5,p6,p7⟩:=xL hb (by grind) hw;have hg:=He (w':=w') hi hm rfl (e':=.live 1 (Ja+1) (ys.map eI)) rfl (G.B id) (Ja+1) ys.length (G.C id) (.inl (by omega)) p1 p2 p3 p4
   (λk hk hne=>p5 k hk (λh=>hne (by rw[hB,h]))) (λk hk=>.inl hk) (by
    refine⟨by simp[Gh.oe],by grind[Gh.oe],by simp[Gh.oe],by grind[Gh.oe],.inr ⟨b,_,T,by grind[Gh.oe],hF,p6,?_,vK λj h=>?_⟩⟩
    all_goals grind[Gh.oe,putCells])
  refine⟨_,_,_,_,rfl,⟨rfl,rfl⟩,?_,hg.1,hg.2⟩;simp only[VRel];exact⟨_,_,_,rfl,g1,by simp[Gh.oe],λ_=>by grind[Gh.oe]⟩
theorem SO{k:FuncId}(hE:Enters P k) {zs ys:List Int}(hlen:ys.length=zs.length)
 (h1:∀w b off cap,Holds (Value.int .i64) w b off zs.toArray->b<w.heap.size->Calls P k #[.slice (some ⟨b,off,none⟩) zs.length cap] w λe w'=>e=.returned (.tuple #[])/\∃n os,w'=grow (putRow (Value.int .i64) (Sort.ahead w n) b off ys.toArray) os)
 (h0:∀w cap,Calls P k #[.slice none 0 cap] w λe w'=>e=.returned (.tuple #[])/\w'=w):MN P k [] [] 1 (zs.map eI) (ys.map eI) (.tup []):=
 λm id Ja hm=>uJ hE hm hlen h1 h0
variable {P:Program} {N:Nat}
theorem VsRel.swap{G:Gh}{w:World}{l:List D}{us:List Value}{i:Nat}{d:D}{u:Value}(h:VsRel G w l us) (hu:us.getD i undef=u) (hi:i<l.length) (hd:VRel G w d u):VsRel G w (l.set i d) us:=by
 have:=h.set hd i;have hlen:=h.length;have he:us.set i u=us:=by
  apply Iab
  grind
 simp_all
theorem T.Mr{i j d S:Nat}{l:List D}{neg:Bool}{s:St}{K:Exit->St->Prop}(hs:s.t[i]?=some (.sl S l)) (hl:la l=true) (hj:j<s.t.length) (hij:i≠j) (hjd:j≠d) (hid:i≠d)
 (h:∀b,(l≠[]->b=neg)->K .normal ⟨(s.t.set j (.sl S l)).set d (.v (.bool b)),s.m⟩) :
 T P N (.mJ [.op (some j) none (.mv (.tmp i)),.op (some d) none (.Mr neg (.tmp j))]) K s:=by
 intro code hc G w a hN hr;have hi:i<s.t.length:=(Haa.1 hs).1;obtain⟨u,hu,hv⟩:=hr.t.getElem hs;have hv':=hv;simp only[VRel]at hv';obtain⟨p,n,c,rfl,hn,hnc,hp⟩:=hv';have hgu:a.tmps.toList.getD i undef=.slice p n c:=by simp_all
 have hr1:Rel G w a ⟨s.t.set i (.v (.slice p n c)),s.m⟩:=⟨hr.t.swap hgu hi (by simp[VRel]),hr.inv,hr.defers⟩;have hT:T P N (.mJ [.op (some j) none (.mv (.tmp i)),.op (some d) none (.Mr neg (.tmp j))]) (λe s'=>e=.normal/\s'=⟨((s.t.set i (.v (.slice p n c))).set j (.v (.slice p n c))).set d (.v (.bool (p.isNone !=neg))),s.m⟩) ⟨s.t.set i (.v (.slice p n c)),s.m⟩:=by
  refine T.mJ ?_;have e1:((s.t.set i (.v (.slice p n c))).getD i .dead)=.v (.slice p n c):=by simp_all
  have e2:((s.t.set i (.v (.slice p n c))).set j (.v (.slice p n c))).getD j .dead=.v (.slice p n c):=by
   simp_all
  simp only[fj,gate,ia,St.ev,e1,e2,St.put,Laa,Baa,exists_and_left,exists_eq_left',and_assoc,true_and]
 refine Code.wp_mono ?_ (hT code hc G w a hN hr1);rintro e a' w' ⟨s',G',⟨rfl,rfl⟩,h2,h3⟩;have hsl:VRel G' w' (.sl S l) (.slice p n c):=VRel.free ⟨h3.F,h3.heap⟩ (by grind[na]) hv;refine⟨⟨(s.t.set j (.sl S l)).set d (.v (.bool (p.isNone !=neg))),s.m⟩,G',h _ ?_,⟨?_,h2.inv,h2.defers⟩,h3⟩
 .intro hne;rcases hp with hp|⟨b,off,rfl,-⟩
  all_goals simp_all
 .have h2t:=h2.t;have g:∀k,(((s.t.set i (.v (.slice p n c))).set j (.v (.slice p n c))).set d (.v (.bool (p.isNone !=neg))))[k]?=some (.v (.slice p n c))->a'.tmps.toList.getD k undef=.slice p n c:=by
   intro k hk;obtain⟨u,h1,h2⟩:=h2t.getElem hk;simp only[VRel]at h2
   simp_all
  have gi:=g i (by grind);have gj:=g j (by grind);have k1:=h2t.swap gi (by simp_all) hsl;have k2:=k1.swap gj (by simp_all) hsl;have:((((s.t.set i (.v (.slice p n c))).set j (.v (.slice p n c))).set d (.v (.bool (p.isNone !=neg)))).set i (.sl S l)).set j (.sl S l)=(s.t.set j (.sl S l)).set d (.v (.bool (p.isNone !=neg))):=by
   apply Iab
   grind
  simp_all
theorem rV{ρ:Io}{m:List Ent}{n:Nat}{d:D}(h:na d=true):Sq ρ m (n+1) d d:=by
 cases d with
 |v x=>exact rfl
 |agg a=>exact .inl ⟨rfl,by grind[na]⟩
 |tup a=>exact .inl ⟨rfl,by grind[na]⟩
 |sl S a=>exact⟨rfl,.inl ⟨rfl,by grind[na]⟩⟩
 |pt d=>exact .inl ⟨rfl,by grind[na]⟩
 |fn f a c=>
  simp only[na,paa]at h;exact⟨rfl,.inl ⟨rfl,h.1⟩,.inl ⟨rfl,h.2⟩⟩
 |dead=>exact trivial
 |ifc t d=>exact⟨rfl,.inl ⟨rfl,by grind[na]⟩⟩
 |own=>grind[na]
 |ref=>grind[na]
 |view=>grind[na]
 |mp=>grind[na]
def yX(E:List (Nat×List Nat)) (P:Program) (ops:Array Oper) (o:Oper) (op:Op):Option I:=
 match op with
 |.binOp b t x y _=>
  match E.lookup t with
  |some ks=>some (.ceq (decide (b=.neq)) ks x y)
  |none=>xr P ops o op
 |_=>xr P ops o op
def qS(E:List (Nat×List Nat)) (P:Program) (ops:Array Oper) (o:Oper):Option RI:=
 match guardOf ops o.guard with
 |none=>none
 |some g=>
  match rG P o.op with
  |some (f,args)=>some (.call o.dst g f args)
  |none=>(yX E P ops o o.op).map λi=>.op o.dst g i
def HC(E:List (Nat×List Nat)) (P:Program) (ops:Array Oper):List Oper->Option (List RI)
 |[]=>some []
 |o::l=>
  match qS E P ops o,HC E P ops l with
  |some r,some rs=>some (r::rs)
  |_,_=>none
def Bx(E:List (Nat×List Nat)) (P:Program):Code->Option C
 |.skip=>some .skip
 |.region _ ops false=>(HC E P ops ops.toList).map .mJ
 |.region _ ops true=>
  match HC E P ops ops.toList with
  |some rl=>
   if rA (mb ops) rl (QR (mb ops) rl.length)=true then some (.draw (QR (mb ops) rl.length) rl)
   else some (.any (CJ (mb ops) rl.length (QR (mb ops) rl.length)) (QR (mb ops) rl.length) (mb ops) rl)
  |none=>none
 |.seq a b=>
  match Bx E P a,Bx E P b with
  |some x,some y=>some (.seq x y)
  |_,_=>none
 |.cond c a b=>
  match Bx E P a,Bx E P b with
  |some x,some y=>some (.cond c x y)
  |_,_=>none
 |.block id a=>(Bx E P a).map (.block id)
 |.loop a=>(Bx E P a).map .loop
 |.exit id=>some (.exit id)
 |.ret=>some .ret
 |.label _=>some .skip
 |.rangeFunc ..=>some .stuck
 |_=>none
def xX(E:List (Nat×List Nat)) (P:Program) (f:FuncId):Option Fun:=
 match P.funcs[f]? with
 |some fn=>
  match fn.body,Gu P fn.results.toList with
  |some b,some r=>(Bx E P b).map λc=>⟨fn.ntmps,r,c⟩
  |_,_=>none
 |none=>none
theorem u8l{n:Nat}{h:n<2 ^ 8}:(⟨⟨⟨n,h⟩⟩⟩:UInt8)=UInt8.ofNat n:=by
 apply UInt8.toBitVec_inj.1;simp only[BitVec.ofFin_eq_ofNat];rfl
theorem arl{l:List UInt8}:(⟨l⟩:Array UInt8)=l.toArray:=rfl
structure Kf (P:Program) (n:Nat) where
 F:Fun
 ok:Vt P n=some F
 nm:((P.funcs[n]?).map λfn=>fn.name == "runtime.NumGoroutine")=some false
theorem Kf.o{P:Program}{n:Nat}(K:Kf P n):Vt P n=some K.F/\((P.funcs[n]?).map λfn=>fn.name == "runtime.NumGoroutine")=some false:=⟨K.ok,K.nm⟩
abbrev Kf.of(E:List (Nat×List Nat)) {P:Program}{n:Nat}{F:Fun}(_:xX E P n=some F:=by conv=>lhs;reduce;try simp only[Int.reduceOfNat,Int.reduceNegSucc,u8l,arl,UInt8.reduceOfNat]) (ok:Vt P n=some F:=by kernel_rfl) (nm:((P.funcs[n]?).map λfn=>fn.name == "runtime.NumGoroutine")=some false:=by kernel_rfl):Kf P n:=⟨F,ok,nm⟩
theorem ss:type_of% @T.qx:=@T.qx
theorem rg:type_of% @T.rg:=@T.rg
theorem sr:type_of% @T.sr:=@T.sr
theorem cd:type_of% @T.cd:=@T.cd
theorem bk:type_of% @T.bk:=@T.bk
theorem sk:type_of% @T.skip:=@T.skip
theorem xt:type_of% @T.exit:=@T.exit
theorem ay:type_of% @T.ay:=@T.ay
theorem dy:type_of% @T.dy:=@T.dy
theorem ao:type_of% @T.ao:=@T.ao
theorem tl:type_of% @T.uE:=@T.uE
theorem cq:type_of% @tG:=@tG
theorem lq:type_of% @qG:=@qG
theorem bs:type_of% @vm:=@vm
theorem lc:type_of% @T.KP:=@T.KP
theorem tj:type_of% @T.join:=@T.join
theorem lv:type_of% @BC:=@BC
theorem cv:type_of% @CC:=@CC
section
variable {P:Program} {N:Nat}
theorem jn{X:Type}{a b:C}{K:Exit->St->Prop}{s:St} [StbC N K] (S:X->St) {o:Option X}{β:Type}{f:X->Option β}{r:β}(h:o.bind f=some r) (ha:∀z,o=some z->Tm.T P N a (KJ N K S (.inl z:X⊕Unit)) s) (hb:∀z,o=some z->f z=some r->Tm.T P N b K (S z)):Tm.T P N (.seq a b) K s:=by
 obtain⟨z,h1,h2⟩:=vm h;refine T.join (R:=Unit) S (.inl z) (ha z h1) ?_;rintro _ ⟨⟩;exact hb z h1 h2
theorem gi{p q Y N:Prop} [Decidable q] {α:Type}{A B:Option α}{r:α}(h:(if q then A else B)=some r) (h1:q->A=some r->Y) (h2:¬q->B=some r->N) (hpq:p=q:=by rfl):gP p Y N:=gP.ite h (iff_of_eq hpq) h1 h2
theorem rt:type_of% @T.ret:=@T.ret
theorem er:type_of% @Rl:=@Rl
end
theorem eT{α:Type} [BEq α] [LawfulBEq α] {a b:α}(h:a=b):(a==b)=true:=beq_iff_eq.2 h
theorem eF{α:Type} [BEq α] [LawfulBEq α] {a b:α}(h:¬a=b):(a==b)=false:=beq_eq_false_iff_ne.2 h
theorem eD{α:Type} [BEq α] [LawfulBEq α] {a b:α}(h:¬ ¬a=b):(a==b)=true:=beq_iff_eq.2 (xaa.1 h)
theorem nT{α:Type} [BEq α] [LawfulBEq α] {a b:α}(h:¬a=b):(a !=b)=true:=bne_iff_ne.2 h
theorem nF{α:Type} [BEq α] [LawfulBEq α] {a b:α}(h:a=b):(a !=b)=false:=by simpa using h
theorem nD{α:Type} [BEq α] [LawfulBEq α] {a b:α}(h:¬ ¬a=b):(a !=b)=false:=nF (xaa.1 h)
theorem bI{α β:Type}{l:List α}{i:Int}{g:α->Option β}{r:β}(h:(idx l i).bind g=some r):∃x,0<=i/\l[i.toNat]?=some x/\g x=some r:=by
 obtain⟨x,h1,h2⟩:=vm h;obtain⟨h3,h4⟩:=Q3 h1;exact⟨x,h3,h4,h2⟩
theorem bO{α β:Type}{l:List α}{i:Int}{g:α->Option β}{r:β}(h:(idx l i).bind g=some r):∃x,0<=i/\l[i.toNat]?=some x/\i.toNat<l.length/\g x=some r:=by
 obtain⟨x,h1,h2⟩:=vm h;obtain⟨h3,h4,h5⟩:=R3 h1;exact⟨x,h3,h4,h5,h2⟩
section
variable {P:Program} {N:Nat}
theorem jm{X:Type}{a b:C}{K:Exit->St->Prop}{s:St} [StbC N K] {o:Option X}{β:Type}{f:X->Option β}{r:β}(h:o.bind f=some r) (S:X->St) (ha:∀z,o=some z->Tm.T P N a (KJ N K S (.inl z:X⊕Unit)) s) (hb:∀z,o=some z->f z=some r->Tm.T P N b K (S z)):Tm.T P N (.seq a b) K s:=jn S h ha hb
theorem lm{σ β ρ:Type}{id:Nat}{K:Exit->St->Prop} [hst:StbC N K] {x:C}{s:St}{step:σ->Option (Ex σ β ρ)}{x0:σ}{y:β⊕ρ}(hy:Tm.fa step x0=some y) (S:σ->St) (B:β->St) (hs:Tells N s (S x0))
 (round:∀a z,step a=some z->(∀v,z=.ret v->y=.inr v)->Tm.T P N x (KL N id K S B z) (S a))
 (rest:∀b,y=.inl b->K .normal (B b)):Tm.T P N (.block id (.loop x)) K s:=T.KP S B step x0 hy hs round rest
end
abbrev ok(i:Nat):Option Nat×Nat×Nat:=(some i,0,0)
abbrev ov(i v:Nat):Option Nat×Nat×Nat:=(some i,v,0)
abbrev on(S:Nat):Option Nat×Nat×Nat:=(none,S,0)
theorem tq{N:Nat}(ρ:Io) {s S:St}(h:aB (Sq ρ s.m 9) s.t S.t/\ZA ρ s.m ρ S.m) (hk:Zv ρ N=true:=by rfl) (h3:(ρ.filterMap (·.1)).Nodup:=by decide):Tells N s S:=Tells.q ρ hk h3 h
theorem fq:type_of% @JF:=@JF
theorem zr:type_of% (And.intro (And.intro @gk @Xr) (And.intro @Yr @rp)):=And.intro (And.intro @gk @Xr) (And.intro @Yr @rp)
class FrL (l:List D):Prop where
 h:la l=true
instance:FrL []:=⟨rfl⟩
instance {α:Type}{e:α->D} [Fr e] {x:α}{l:List D} [FrL l]:FrL (e x::l):=⟨kD FrL.h⟩
theorem dk{P:Program}{k:Nat}{l:List D}{o:D}(n:Nat) (K:Kf P k) (h:T P 0 K.F.code (DE K.F.results o) ⟨l++Tm.ds n [],[]⟩) (hf:la l=true:=by exact FrL.h) (hn:K.F.ntmps=l.length+n:=by rfl):Den P k l o:=Den.at n K.ok K.nm hf hn h
variable {P:Program}
def NL(P:Program) (k:Nat) (ds:List D) (S:Nat) (l:List D):Prop:=∀m,CallT P k ds m λd m'=>d=.own m.length 0/\m'=m++[.live S 0 l]
theorem dY{k S:Nat}{l ds:List D}(hds:la ds=true) (hl:la l=true) (h:CallT P k ds [] λd m'=>d=.own 0 0/\m'=[.live S 0 l]):NL P k ds S l:=by
 refine λm=>⟨h.1,λG w vs hv hi=>?_⟩;have h0:=h.2 (Gh.bare G.F) w vs (VsRel.free (G:=G) (G':=Gh.bare G.F) ⟨λ_ h=>h,λ_ _=>rfl⟩ hds hv) (uz hi.F (hi.gl.bare λ_ h=>h));refine h0.mono ?_;rintro e w' ⟨v,d,m',G',rfl,⟨rfl,rfl⟩,hvd,hi',hs⟩;obtain⟨fV,fS,fN,fC,fB⟩:=hi'.ent 0 _ rfl;have hGn:=hi.n;have noO:∀b,¬Xd (Gh.bare G.F) [] b:=λb=>Mw;have owned0:∀b,G'.B 0=some b->Xd G' [.live S 0 l] b:=λb hb=>⟨0,_,rfl,rfl,hb⟩;have newb:∀b,G'.B 0=some b->w.heap.size<=b:=λb hb=>by
  rcases zab b w.heap.size with h|h
  .exact(noO b (hs.newB b h (owned0 b hb))).elim
  omega
 have hF:∀b,b<w.heap.size->G'.F b->G.F b:=λb hb hf=>by
  rcases hs.newF b hb hf with h|h
  .exact h
  simp_all
 have hsub:SubF G' w' ⟨G'.F,G.n+1,λi=>if i=G.n then G'.B 0 else G.B i,λi=>if i=G.n then 0 else G.V i,λi=>if i=G.n then G'.S 0 else G.S i,λi=>if i=G.n then G'.N 0 else G.N i,λi=>if i=G.n then G'.C 0 else G.C i⟩ w':=⟨λ_ h=>h,λ_ _=>rfl⟩;have hle:Le G w ⟨G'.F,G.n+1,λi=>if i=G.n then G'.B 0 else G.B i,λi=>if i=G.n then 0 else G.V i,λi=>if i=G.n then G'.S 0 else G.S i,λi=>if i=G.n then G'.N 0 else G.N i,λi=>if i=G.n then G'.C 0 else G.C i⟩ w':=by
  refine⟨λb hb=>hs.le.F b hb,λb hb=>hs.le.heap b hb,by simp,λi hi=>.inl ?_⟩
  grind
 have hget:∀i x,(m++[.live S 0 l])[i]?=some x->(m[i]?=some x/\i≠G.n)\/(i=G.n/\x=.live S 0 l):=by
  grind
 have olt:∀i x,m[i]?=some x->x.isLive=true->∀b,G.B i=some b->b<w.heap.size/\¬G.F b:=λi x hx hl b hb=>(hi.ent i x hx).lt hl hb;refine⟨v,_,_,⟨G'.F,G.n+1,λi=>if i=G.n then G'.B 0 else G.B i,λi=>if i=G.n then 0 else G.V i,λi=>if i=G.n then G'.S 0 else G.S i,λi=>if i=G.n then G'.N 0 else G.N i,λi=>if i=G.n then G'.C 0 else G.C i⟩,rfl,⟨rfl,rfl⟩,?_,⟨by simp_all,hi'.F,?_,?_,hi'.gl.bare λ_ h=>h⟩,⟨hle,hs.os,hs.tape,hs.output,hs.size,?_,?_,?_⟩⟩
 .simp only[VRel]at hvd⊢
  grind
 .intro i x hx;rcases hget i x hx with⟨h1,h2⟩|⟨rfl,rfl⟩
  .by_cases hlx:x.isLive=true
   .refine(hi.ent i x h1).mono hle (by grind) (λb hb=>?_) (λb hb _ hf=>?_)
    .exact hs.keep b (olt i x h1 hlx b hb).1 (noO b)
    grind
   .cases x with
    |gone=>trivial
    |_=>grind[Ent.isLive]
  .refine⟨by simp,by simp_all,by simp_all,by simp_all,?_⟩;rcases fB with h|⟨b,cs,T,h1,h2,h3,h4,h5⟩
   .simp_all
   .exact .inr ⟨b,cs,T,by simp_all,h2,h3,by simp_all,by simpa using Qa.free hsub rfl hl h5⟩
 .intro i j x y hx hy lx ly b hb hb';rcases hget i x hx with⟨h1,h2⟩|⟨rfl,rfl⟩<;>rcases hget j y hy with⟨h3,h4⟩|⟨rfl,rfl⟩
  .exact hi.apart i j x y h1 h3 lx ly b (by simp_all) (by simp_all)
  all_goals grind
 .intro b hb hno;exact hs.keep b hb (noO b)
 .simp_all
 .rintro b hb ⟨i,x,hx,lx,hB⟩;rcases hget i x hx with⟨h1,h2⟩|⟨rfl,rfl⟩
  .exact⟨i,x,h1,lx,by simp_all⟩
  grind
theorem NL.den{k S:Nat}{l ds:List D}(hds:la ds=true) (hl:la l=true) (h:NL P k ds S l):Den P k ds (.sl S l):=by
 refine MH hds ((h []).mono ?_);rintro d m' ⟨rfl,rfl⟩;exact .Wd (by simp) rfl (Sbs.free hl) .nil
theorem NH{k:Nat}{ds:List D}{R:D->List Ent->Prop}{d2:D}{m2:List Ent}(h:CallT P k ds [] R) (ht:∀d m',R d m'->Tells 0 ⟨[d],m'⟩ ⟨[d2],m2⟩):CallT P k ds [] λd m'=>d=d2/\m'=m2:=by
 refine⟨h.1,λG w vs hv hi=>(h.2 G w vs hv hi).mono ?_⟩;rintro e w' ⟨v,d,m',G',rfl,hR,hvd,hi',hs⟩;have hr:Rel G' w' { tmps:=#[v],defers:=[] } ⟨[d],m'⟩:=⟨by simp only[VsRel];simp_all,hi',rfl⟩;obtain⟨G'',h3,h4⟩:=xp (ht d m' hR) (wab _) hr;have hT:=h3.t;simp only[VsRel]at hT;obtain⟨u,us,he,h1,_⟩:=hT;injection he with he _;subst he;have h5:=(hs.BV (wab _)).trans h4;have h0:0=G.n:=by rw[hi.n];rfl
 rw[h0]at h5;exact⟨_,d2,m2,G'',rfl,⟨rfl,rfl⟩,h1,h3.inv,h5.toStep⟩
def MW(rs:List RV) (S:Nat) (l:List D) (e:Exit) (s:St):Prop:=
 match e with
 |.normal=>∃S',Tells 0 s S'/\∃ds,qb S' rs=some ds/\Tells 0 ⟨[um ds],S'.m⟩ ⟨[.own 0 0],[.live S 0 l]⟩
 |.ret=>∃S',Tells 0 s S'/\∃ds,qb S' rs=some ds/\Tells 0 ⟨[um ds],S'.m⟩ ⟨[.own 0 0],[.live S 0 l]⟩
 |_=>False
def UX(r:Option (List D)) (m:List Ent) (S:Nat) (l:List D):Prop:=∃ds,r=some ds/\Tells 0 ⟨[um ds],m⟩ ⟨[.own 0 0],[.live S 0 l]⟩
theorem U0{rs:List RV}{S:Nat}{l:List D}{s:St}(h:UX (qb s rs) s.m S l):MW rs S l .ret s:=by
 obtain⟨ds,h1,h2⟩:=h;exact⟨s,.refl s,ds,h1,h2⟩
theorem W0{ds:List D}{m:List Ent}{S:Nat}{l:List D}:UX (some ds) m S l=Tells 0 ⟨[um ds],m⟩ ⟨[.own 0 0],[.live S 0 l]⟩:=by simp[UX]
instance {rs:List RV}{S:Nat}{l:List D}:StbC 0 (MW rs S l):=⟨by
 rintro s S' h ⟨S1,h1,h2⟩;exact⟨S1,h.trans h1,h2⟩⟩
theorem NL.at{k S:Nat}{F:Fun}{ds l:List D}(n:Nat) (hF:Vt P k=some F) (hname:((P.funcs[k]?).map λfn=>fn.name == "runtime.NumGoroutine")=some false)
 (hds:la ds=true) (hl:la l=true) (hn:F.ntmps=ds.length+n) (h:T P 0 F.code (MW F.results S l) ⟨ds++Tm.ds n [],[]⟩):NL P k ds S l:=by
 refine dY hds hl (NH (R:=λd m'=>Tells 0 ⟨[d],m'⟩ ⟨[.own 0 0],[.live S 0 l]⟩) (Ry hF hname ?_) λ_ _ h=>h);rw[hn,aac,←sA];refine T.X1 (h.mono ?_);have key:∀(e:Exit) (s:St),(∀s',Nx F.results (λd m'=>Tells 0 ⟨[d],m'⟩ ⟨[.own 0 0],[.live S 0 l]⟩) e s' = ∃ds,qb s' F.results=some ds/\Tells 0 ⟨[um ds],s'.m⟩ ⟨[.own 0 0],[.live S 0 l]⟩)->(∃S',Tells 0 s S'/\∃ds,qb S' F.results=some ds/\Tells 0 ⟨[um ds],S'.m⟩ ⟨[.own 0 0],[.live S 0 l]⟩)->KK 0 (Nx F.results λd m'=>Tells 0 ⟨[d],m'⟩ ⟨[.own 0 0],[.live S 0 l]⟩) e s:=by
  intro e s he ⟨S,h1,h2⟩ G w a hN hr;obtain⟨G',h3,h4⟩:=xp h1 hN hr
  grind
 intro e s hs
 cases e with
 |normal=>exact key _ s (λ_=>rfl) hs
 |ret=>exact key _ s (λ_=>rfl) hs
 |_=>exact(hs:False).elim
theorem callX_O{k S:Nat}{ds ds' l:List D}{m:List Ent}{f:D->List Ent->Prop}(h:NL P k ds' S l) (hf:f (.own m.length 0) (m++[.live S 0 l])) (hs:Ka ds ds'):vf P k ds m f:=
 Cj (dM hs (h m)) hf
inductive Q where
 |p (n:Nat)
 |k (n:Nat)
 |s (d:D)
 |y (i:Nat)
 |g (q:List Q)
inductive M1 where
 |o (j:Nat)
 |O (j:Nat)
 |H (j:Nat) (q:List Q)
 |C (j:Nat) (l:List D)
 |c (j:Nat) (l:List D)
 |n (S:Nat) (l:List D)
 |h (j:Nat) (q:List Q)
 |m (j:Nat) (l:List (Value×D))
structure Ed where
 q:List Q
 m:List M1
inductive Hi:Type 1 where
 |o
 |b (l r:Hi)
 |z (n:Nat) (x:Hi)
 |t (ρ:Io)
 |a (ps:List (List Nat)) (x:Hi)
 |g (ps:List (List Nat)) (pl:List (Option Nat)) (x:Hi)
 |f (S:Ed) (ρ:Io) (x:Hi)
 |d (M:List M1) (ρ:Io) (x:Hi)
 |j {X:Type} (n:Nat) (S:X->Ed) (l r:Hi)
 |e {X:Type} (n:Nat) (S:X->Ed) (l r:Hi)
 |l {σ β:Type} (n m:Nat) (S:σ->Ed) (B:β->Ed) (ρ:Io) (x y:Hi)
 |u {σ:Type} (n:Nat) (S:σ->Ed) (ρ:Io) (x:Hi)
 |i {X:Type} {P:Program} {k:Nat} (K:Kf P k) (n w:Nat) (S:X->Ed) (x y:Hi)
 |c {P:Program} {k:Nat} (K:Kf P k) (w:Nat) (x:Hi)
 |v (x:Hi)
def Am:List M1->Nat->Nat->Option (Nat×Bool)
 |[],_,_=>none
 |.o k::l,j,i=>bif k==j then some (i,false)else Am l j (i+1)
 |.c k _::l,j,i=>bif k==j then some (i,false)else Am l j (i+1)
 |.h k _::l,j,i=>bif k==j then some (i,false)else Am l j (i+1)
 |.O k::l,j,i=>bif k==j then some (i,true)else Am l j (i+1)
 |.H k _::l,j,i=>bif k==j then some (i,true)else Am l j (i+1)
 |.C k _::l,j,i=>bif k==j then some (i,true)else Am l j (i+1)
 |.n _ _::l,j,i=>Am l j (i+1)
 |.m k _::l,j,i=>bif k==j then some (i,false)else Am l j (i+1)
def RZ(o:Option (Nat×Bool)) (v:Nat) (f:Nat->Nat->D):D:=match o with|some (i,b)=>f i (bif b then v else 0)|none=>.dead
mutual
def lr(ks:List M1) (m:List Ent):Nat->D->D
 |n+1,.own j v=>FW ks m n v m[j]? (Am ks j 0)
 |n+1,.ref j v x s=>GW ks m n v x s m[j]? (Am ks j 0)
 |_+1,.view j v lo k=>RZ (Am ks j 0) v λi v=>.view i v lo k
 |_+1,.mp j=>RZ (Am ks j 0) 0 λi _=>.mp i
 |n+1,.agg l=>.agg (Nt ks m n l)
 |n+1,.tup l=>.tup (Nt ks m n l)
 |n+1,.fn k a c=>.fn k (Nt ks m n a) (Nt ks m n c)
 |n+1,.pt d=>.pt (lr ks m n d)
 |_,d=>d
def FW(ks:List M1) (m:List Ent) (n v:Nat):Option Ent->Option (Nat×Bool)->D
 |_,some (i,b)=>.own i (bif b then v else 0)
 |some (.live S _ l),none=>.sl S (Nt ks m n l)
 |_,none=>.dead
def GW(ks:List M1) (m:List Ent) (n v x s:Nat):Option Ent->Option (Nat×Bool)->D
 |_,some (i,b)=>.ref i (bif b then v else 0) x s
 |some (.live _ _ (d::_)),none=>.pt (lr ks m n d)
 |_,none=>.dead
def Nt(ks:List M1) (m:List Ent) (n:Nat):List D->List D
 |[]=>[]
 |d::l=>lr ks m n d::Nt ks m n l
end
mutual
theorem eE(ks:List M1) (m:List Ent):∀(n:Nat) (d:D),na d=true->lr ks m n d=d
 |n+1,.agg l,h=>by simp only[na]at h;simp only[lr,me ks m n l h]
 |n+1,.tup l,h=>by simp only[na]at h;simp only[lr,me ks m n l h]
 |n+1,.fn k a c,h=>by simp only[na,paa]at h;simp only[lr,me ks m n a h.1,me ks m n c h.2]
 |n+1,.pt d,h=>by simp only[na]at h;simp only[lr,eE ks m n d h]
 |_,.own _ _,h=>by grind[na]
 |_,.view _ _ _ _,h=>by grind[na]
 |_,.ref _ _ _ _,h=>by grind[na]
 |_,.mp _,h=>by grind[na]
 |n,.v _,_=>by grind[lr]
 |n,.sl _ _,_=>by grind[lr]
 |n,.ifc _ _,_=>by grind[lr]
 |n,.dead,_=>by grind[lr]
 |0,.agg _,_=>by simp only[lr]
 |0,.tup _,_=>by simp only[lr]
 |0,.fn _ _ _,_=>by simp only[lr]
 |0,.pt _,_=>by simp only[lr]
theorem me(ks:List M1) (m:List Ent) (n:Nat):∀l:List D,la l=true->Nt ks m n l=l
 |[],_=>by grind[Nt]
 |d::l,h=>by simp only[la,paa]at h;simp only[Nt,eE ks m n d h.1,me ks m n l h.2]
end
def xI:List D->List D
 |[]=>[]
 |_::l=>.dead::xI l
def Mu(ks:List M1) (m:List Ent) (u:List D):List Q->List D->List D
 |[],l=>xI l
 |_::_,[]=>[]
 |.p 0::q,l=>Mu ks m u q l
 |.p (n+1)::q,d::l=>lr ks m 9 d::Mu ks m u (.p n::q) l
 |.k 0::q,l=>Mu ks m u q l
 |.k (n+1)::q,d::l=>.dead::Mu ks m u (.k n::q) l
 |.s e::q,d::l=>e::Mu ks m u q l
 |.y i::q,_::l=>lr ks m 9 (u.getD i .dead)::Mu ks m u q l
 |.g r::q,.agg b::l=>.agg (Mu ks m u r b)::Mu ks m u q l
 |.g _::q,d::l=>d::Mu ks m u q l
def eO(ks:List M1) (m:List Ent):Option Ent->Ent
 |some (.live S v l)=>.live S 0 (Nt ks m 9 l)
 |some e=>e
 |none=>.gone
def eX(b:List D):Option Ent->Ent
 |some (.live S v _)=>.live S v b
 |some e=>e
 |none=>.gone
def eV(ks:List M1) (m:List Ent):Option Ent->Ent
 |some (.live S v l)=>.live S v (Nt ks m 9 l)
 |some e=>e
 |none=>.gone
def eW(ks:List M1) (m:List Ent) (q:List Q):Option Ent->Ent
 |some (.live S v l)=>.live S v (Mu ks m [] q l)
 |some e=>e
 |none=>.gone
def eC(b:List D):Option Ent->Ent
 |some (.live S v _)=>.live S 0 b
 |some e=>e
 |none=>.gone
def eH(ks:List M1) (m:List Ent) (q:List Q):Option Ent->Ent
 |some (.live S v l)=>.live S 0 (Mu ks m [] q l)
 |some e=>e
 |none=>.gone
def OR(ks:List M1) (m:List Ent):M1->Ent
 |.o j=>eO ks m m[j]?
 |.c j l=>eC l m[j]?
 |.n S l=>.live S 0 l
 |.h j q=>eH ks m q m[j]?
 |.O j=>eV ks m m[j]?
 |.C j l=>eX l m[j]?
 |.H j q=>eW ks m q m[j]?
 |.m _ l=>.mp l
def V0(ks:List M1) (m:List Ent):List M1->List Ent
 |[]=>[]
 |x::l=>OR ks m x::V0 ks m l
def eFz(ks:List M1) (m:List Ent):Option Ent->Ent
 |some (.live S _ l)=>.live S 0 (Nt ks m 9 l)
 |some e=>e
 |none=>.gone
def eGz(ks:List M1) (m:List Ent):Option Ent->Ent
 |some (.live S v l)=>.live S v (Nt ks m 9 l)
 |some e=>e
 |none=>.gone
def PR(ks:List M1) (m:List Ent):List M1->List Ent
 |[]=>[]
 |.o j::l=>eFz ks m m[j]?::PR ks m l
 |.O j::l=>eGz ks m m[j]?::PR ks m l
 |_::l=>PR ks m l
def fd(ks:List M1) (s:St):St:=⟨Nt ks s.m 9 s.t,PR ks s.m ks⟩
def ed(E:Ed) (s:St):St:=⟨Mu E.m s.m s.t E.q s.t,V0 E.m s.m E.m⟩
section
variable {ks l:List M1} {i j k n S:Nat} {d e:D} {b c u:List D} {q:List Q} {t:List D} {m r:List Ent} {f:Nat->Nat->D} {x:M1} {v lo y:Nat} {a:Ent}
theorem d_ed:ed ⟨q,ks⟩ ⟨t,m⟩=⟨Mu ks m t q t,V0 ks m ks⟩:=gaa rfl rfl
theorem FO:Am [] j i=none:=gaa rfl rfl
theorem GO:Am (.o k::l) j i=bif k==j then some (i,false)else Am l j (i+1):=gaa rfl rfl
theorem MO:Am (.O k::l) j i=bif k==j then some (i,true)else Am l j (i+1):=gaa rfl rfl
theorem NO:Am (.H k q::l) j i=bif k==j then some (i,true)else Am l j (i+1):=gaa rfl rfl
theorem OO:Am (.C k b::l) j i=bif k==j then some (i,true)else Am l j (i+1):=gaa rfl rfl
theorem HO:Am (.c k b::l) j i=bif k==j then some (i,false)else Am l j (i+1):=gaa rfl rfl
theorem JO:Am (.h k q::l) j i=bif k==j then some (i,false)else Am l j (i+1):=gaa rfl rfl
theorem LO:Am (.n S b::l) j i=Am l j (i+1):=gaa rfl rfl
theorem PO{a:List (Value×D)}:Am (.m k a::l) j i=bif k==j then some (i,false)else Am l j (i+1):=gaa rfl rfl
theorem d_e8{a:List (Value×D)}:OR ks m (.m j a)=.mp a:=gaa rfl rfl
theorem d_f7{a:List (Value×D)}:eO ks m (some (.mp a))=.mp a:=gaa rfl rfl
theorem F3{a:List (Value×D)}:eFz ks m (some (.mp a))=.mp a:=gaa rfl rfl
theorem FX:RZ (some (i,true)) v f=f i v:=gaa rfl rfl
theorem GX:RZ (some (i,false)) v f=f i 0:=gaa rfl rfl
theorem EX:RZ none v f=.dead:=gaa rfl rfl
theorem d_e1:OR ks m (.o j)=eO ks m m[j]?:=gaa rfl rfl
theorem d_f1:eO ks m (some (.live S v b))=.live S 0 (Nt ks m 9 b):=gaa rfl rfl
theorem d_f2:eC c (some (.live S v b))=.live S 0 c:=gaa rfl rfl
theorem d_f3:eH ks m q (some (.live S v b))=.live S 0 (Mu ks m [] q b):=gaa rfl rfl
theorem d_e2:OR ks m (.c j c)=eC c m[j]?:=gaa rfl rfl
theorem d_e3:OR ks m (.n S b)=.live S 0 b:=gaa rfl rfl
theorem d_e5:OR ks m (.O j)=eV ks m m[j]?:=gaa rfl rfl
theorem d_e6:OR ks m (.H j q)=eW ks m q m[j]?:=gaa rfl rfl
theorem d_f4:eV ks m (some (.live S v b))=.live S v (Nt ks m 9 b):=gaa rfl rfl
theorem d_f5:eW ks m q (some (.live S v b))=.live S v (Mu ks m [] q b):=gaa rfl rfl
theorem d_e7:OR ks m (.C j c)=eX c m[j]?:=gaa rfl rfl
theorem d_f6:eX c (some (.live S v b))=.live S v c:=gaa rfl rfl
theorem d_e4:OR ks m (.h j q)=eH ks m q m[j]?:=gaa rfl rfl
theorem d_m0:V0 ks m []=[]:=gaa rfl rfl
theorem d_m1:V0 ks m (x::l)=OR ks m x::V0 ks m l:=gaa rfl rfl
theorem d_k0:xI []=[]:=gaa rfl rfl
theorem d_k1:xI (d::b)=.dead::xI b:=gaa rfl rfl
theorem d_q0:Mu ks m u [] b=xI b:=by grind[Mu]
theorem d_q1:Mu ks m u (.p 0::q) b=Mu ks m u q b:=by cases b<;>cases q<;>simp only[Mu,xI]
theorem d_q2:Mu ks m u (.p (n+1)::q) (d::b)=lr ks m 9 d::Mu ks m u (.p n::q) b:=by grind[Mu]
theorem d_q3:Mu ks m u (.k 0::q) b=Mu ks m u q b:=by cases b<;>cases q<;>simp only[Mu,xI]
theorem d_q4:Mu ks m u (.k (n+1)::q) (d::b)=.dead::Mu ks m u (.k n::q) b:=by grind[Mu]
theorem d_q5:Mu ks m u (.s e::q) (d::b)=e::Mu ks m u q b:=by grind[Mu]
theorem d_q6{g:List Q}:Mu ks m u (.g g::q) (.agg c::b)=.agg (Mu ks m u g c)::Mu ks m u q b:=by grind[Mu]
theorem d_q7{i:Nat}:Mu ks m u (.y i::q) (d::b)=lr ks m 9 (u.getD i .dead)::Mu ks m u q b:=by grind[Mu]
theorem G3:fd ks ⟨t,m⟩=⟨Nt ks m 9 t,PR ks m ks⟩:=gaa rfl rfl
theorem uP:lr ks m (n+1) (.own j v)=FW ks m n v m[j]? (Am ks j 0):=by grind[lr]
theorem vP:lr ks m (n+1) (.ref j v y k)=GW ks m n v y k m[j]? (Am ks j 0):=by grind[lr]
theorem YJ:lr ks m (n+1) (.view j v lo k)=RZ (Am ks j 0) v λi v=>.view i v lo k:=by grind[lr]
theorem oY:lr ks m (n+1) (.mp j)=RZ (Am ks j 0) 0 λi _=>.mp i:=by grind[lr]
theorem oP:lr ks m (n+1) (.agg b)=.agg (Nt ks m n b):=by grind[lr]
theorem xP:lr ks m (n+1) (.tup b)=.tup (Nt ks m n b):=by grind[lr]
theorem gY:lr ks m (n+1) (.fn k b c)=.fn k (Nt ks m n b) (Nt ks m n c):=by grind[lr]
theorem vY:lr ks m (n+1) (.pt d)=.pt (lr ks m n d):=by grind[lr]
theorem g_v{x:Value}:lr ks m n (.v x)=.v x:=by grind[lr]
theorem AY:lr ks m n (.sl S b)=.sl S b:=by grind[lr]
theorem sP:lr ks m n (.ifc S d)=.ifc S d:=by grind[lr]
theorem WJ:lr ks m n .dead=.dead:=by grind[lr]
theorem iY{α:Type}{e:α->D} [Fr e] {x:α}:lr ks m n (e x)=e x:=eE ks m n _ (Fr.h x)
theorem jY:Nt ks m n []=[]:=by grind[Nt]
theorem kY:Nt ks m n (d::b)=lr ks m n d::Nt ks m n b:=by grind[Nt]
theorem lY{α:Type}{e:α->D} [Fr e] {x:List α}:Nt ks m n (x.map e)=x.map e:=me ks m n _ (Fr.l x)
theorem rY{o:Option Ent}:FW ks m n v o (some (i,false))=.own i 0:=by simp_all[FW]
theorem sY{o:Option Ent}:FW ks m n v o (some (i,true))=.own i v:=by simp_all[FW]
theorem tY:FW ks m n v (some (.live S k b)) none=.sl S (Nt ks m n b):=by grind[FW]
theorem wY{o:Option Ent}:GW ks m n v y k o (some (i,false))=.ref i 0 y k:=by simp_all[GW]
theorem xY{o:Option Ent}:GW ks m n v y k o (some (i,true))=.ref i v y k:=by simp_all[GW]
theorem yY:GW ks m n v y k (some (.live S j (d::b))) none=.pt (lr ks m n d):=by grind[GW]
theorem D3:eFz ks m (some (.live S v b))=.live S 0 (Nt ks m 9 b):=gaa rfl rfl
theorem E3:eGz ks m (some (.live S v b))=.live S v (Nt ks m 9 b):=gaa rfl rfl
theorem I3:PR ks m []=[]:=gaa rfl rfl
theorem J3:PR ks m (.o j::l)=eFz ks m m[j]?::PR ks m l:=gaa rfl rfl
theorem K3:PR ks m (.O j::l)=eGz ks m m[j]?::PR ks m l:=gaa rfl rfl
theorem CX{α:Type}{x y:α}:(bif true then x else y)=x:=gaa rfl rfl
theorem DX{α:Type}{x y:α}:(bif false then x else y)=y:=gaa rfl rfl
end
theorem zf:type_of% (And.intro (And.intro (And.intro (And.intro (And.intro (And.intro @G3 @uP) (And.intro @vP @YJ)) (And.intro (And.intro @oY @oP) (And.intro @xP @gY))) (And.intro (And.intro (And.intro @vY @g_v) (And.intro @AY @sP)) (And.intro (And.intro @WJ @iY) (And.intro @jY @kY)))) (And.intro (And.intro (And.intro (And.intro @lY @rY) (And.intro @sY @tY)) (And.intro (And.intro @wY @xY) (And.intro @yY @D3))) (And.intro (And.intro (And.intro @E3 @I3) (And.intro (And.intro @J3 (And.intro @PO @F3)) @K3)) (And.intro (And.intro @FO @GO) (And.intro @HO @JO))))) (And.intro (And.intro (And.intro (And.intro @LO @MO) (And.intro @NO @OO)) (And.intro (And.intro @FX @GX) (And.intro @EX @CX))) (And.intro (And.intro @DX @Waa.{0}) @lab.{0}))):=(And.intro (And.intro (And.intro (And.intro (And.intro (And.intro @G3 @uP) (And.intro @vP @YJ)) (And.intro (And.intro @oY @oP) (And.intro @xP @gY))) (And.intro (And.intro (And.intro @vY @g_v) (And.intro @AY @sP)) (And.intro (And.intro @WJ @iY) (And.intro @jY @kY)))) (And.intro (And.intro (And.intro (And.intro @lY @rY) (And.intro @sY @tY)) (And.intro (And.intro @wY @xY) (And.intro @yY @D3))) (And.intro (And.intro (And.intro @E3 @I3) (And.intro (And.intro @J3 (And.intro @PO @F3)) @K3)) (And.intro (And.intro @FO @GO) (And.intro @HO @JO))))) (And.intro (And.intro (And.intro (And.intro @LO @MO) (And.intro @NO @OO)) (And.intro (And.intro @FX @GX) (And.intro @EX @CX))) (And.intro (And.intro @DX @Waa.{0}) @lab.{0})))def zd:=(And.intro (And.intro (And.intro (And.intro (And.intro (And.intro (And.intro @d_ed @FO) (And.intro @GO @HO)) (And.intro (And.intro @JO @LO) (And.intro @MO @NO))) (And.intro (And.intro (And.intro @OO @FX) (And.intro @GX @EX)) (And.intro (And.intro @d_e1 @d_e2) (And.intro @d_e3 @d_e4)))) (And.intro (And.intro (And.intro (And.intro @d_e5 @d_e6) (And.intro @d_e7 @d_f1)) (And.intro (And.intro @d_f2 @d_f3) (And.intro @d_f4 @d_f5))) (And.intro (And.intro (And.intro (And.intro @d_f6 (And.intro @PO (And.intro @d_e8 @d_f7))) @d_m0) (And.intro @d_m1 @d_k0)) (And.intro (And.intro @d_k1 @d_q0) (And.intro @d_q1 @d_q2))))) (And.intro (And.intro (And.intro (And.intro (And.intro @d_q3 @d_q4) (And.intro @d_q5 @d_q6)) (And.intro (And.intro @d_q7 @uP) (And.intro @vP @YJ))) (And.intro (And.intro (And.intro @oY @oP) (And.intro @xP @gY)) (And.intro (And.intro @vY @g_v) (And.intro @AY @sP)))) (And.intro (And.intro (And.intro (And.intro @WJ @iY) (And.intro @jY @kY)) (And.intro (And.intro @lY @rY) (And.intro @sY @tY))) (And.intro (And.intro (And.intro @wY @xY) (And.intro @yY @Yab.{0})) (And.intro (And.intro @lad.{0} @CX) (And.intro @DX @Waa.{0})))))) @lab.{0})
class HiC:Type 1 where
 h:Hi
def Yi[i:HiC] (p:Prop):Prop:=p
structure Wh (n:Nat) (p:Prop):Prop where
 h:p
structure Lh (n:Nat) (p:Prop):Prop where
 h:p
def EQ(p:Prop):Prop:=p
theorem EQ.out{p:Prop}(h:EQ p):p:=h
structure Lk {α β:Type}(c:α->β) (z:β) (w:α) (p:Prop):Prop where
 l:∀v,z=c v->v=w
 k:p
theorem cN{p:Prop}(h:¬p):¬p:=h
class Con (p:Prop) (q:outParam Prop):Prop where
 h:p->q
class Enc (α:Type) (e:outParam (α->D)):Prop where
 h:True
section
variable {P:Program} {N:Nat} {h x:Hi} {a b:C} {K:Exit->St->Prop} {s:St}
theorem gj{X:Type}{n:Nat}{S:X->Ed}(g:@Yi ⟨.j n S h x⟩ (Tm.T P N (.seq a b) K s)):@Yi ⟨.j n S h x⟩ (Tm.T P N (.seq a b) K s):=g
theorem ge{X:Type}{n:Nat}{S:X->Ed}(g:@Yi ⟨.e n S h x⟩ (Tm.T P N (.seq a b) K s)):@Yi ⟨.e n S h x⟩ (Tm.T P N (.seq a b) K s):=g
theorem gq{p:Prop}{R1 R2:St->Prop}{s1 s2:St}(g:@Yi ⟨h⟩ (gP p (R1 s1) (R2 s2))):@Yi ⟨h⟩ (gQ p R1 s1 R2 s2):=g
theorem gy1{R:List (List Nat)->St->Prop}{fp:List (List Nat)}{p:List Nat}{d:Option Tmp}{i:I}(g:@Yi ⟨h⟩ (aN R fp p d i s)):@Yi ⟨h⟩ (aN R fp p d i s):=g
theorem gy2{R:List (List Nat)->St->Prop}{fp:List (List Nat)}{p:List Nat}{d:Option Tmp}{i:I}(g:@Yi ⟨h⟩ (ZZ R fp p d i s)):@Yi ⟨h⟩ (ZZ R fp p d i s):=g
theorem gy3{R:List (List Nat)->St->Prop}{fp:List (List Nat)}{p:List Nat}{k:FuncId}{d:Option Tmp}{i:List Operand}(g:@Yi ⟨h⟩ (xO P R fp p k d i s)):@Yi ⟨h⟩ (xO P R fp p k d i s):=g
theorem gy4{R:List (List Nat)->St->Prop}{fp:List (List Nat)}{p:List Nat}{d:Option Tmp}{i:List Operand}(g:@Yi ⟨h⟩ (Z1 R fp p d i s)):@Yi ⟨h⟩ (Z1 R fp p d i s):=g
theorem gy5{ps:List (List Nat)}{q:Nat}{l:List RI}{R:St->Prop}{fp:List (List Nat)}(g:@Yi ⟨h⟩ (Bt P ps q l R fp s)):@Yi ⟨h⟩ (Bt P ps q l R fp s):=g
theorem gg{p A B:Prop}(g:@Yi ⟨h⟩ (gP p A B)):@Yi ⟨h⟩ (gP p A B):=g
theorem gcd{c:Operand}(g:@Yi ⟨h⟩ (Tm.T P N (.cond c a b) K s)):@Yi ⟨h⟩ (Tm.T P N (.cond c a b) K s):=g
theorem gcx{k:Nat}{ds:List D}{m:List Ent}{f:D->List Ent->Prop}(g:@Yi ⟨h⟩ (vf P k ds m f)):@Yi ⟨h⟩ (vf P k ds m f):=g
theorem gcl{k:Nat}{ds:List D}{i:List Nat}{R:St->Prop}{d:Option Tmp}(g:@Yi ⟨h⟩ (jv P k ds i R s d)):@Yi ⟨h⟩ (jv P k ds i R s d):=g
theorem gl{σ β:Type}{n m:Nat}{S:σ->Ed}{B:β->Ed}{ρ:Io}{y:Hi}{id:Nat}(g:@Yi ⟨.l n m S B ρ x y⟩ (Tm.T P N (.block id (.loop a)) K s)):@Yi ⟨.l n m S B ρ x y⟩ (Tm.T P N (.block id (.loop a)) K s):=g
theorem gu{σ:Type}{n:Nat}{S:σ->Ed}{ρ:Io}{id:Nat}(g:@Yi ⟨.u n S ρ x⟩ (Tm.T P N (.block id (.loop a)) K s)):@Yi ⟨.u n S ρ x⟩ (Tm.T P N (.block id (.loop a)) K s):=g
theorem gf{E:Ed}{ρ:Io}{q:Prop}(g:@Yi ⟨.f E ρ x⟩ q):@Yi ⟨.f E ρ x⟩ q:=g
theorem ga{ps:List (List Nat)}{q:Prop}(g:@Yi ⟨.a ps x⟩ q):@Yi ⟨.a ps x⟩ q:=g
theorem gao{ps:List (List Nat)}{pl:List (Option Nat)}{q:Prop}(g:@Yi ⟨.g ps pl x⟩ q):@Yi ⟨.g ps pl x⟩ q:=g
theorem yss(g:@Yi ⟨h⟩ (Tm.T P N a (KS P N b K) s)):@Yi ⟨h⟩ (Tm.T P N (.seq a b) K s):=T.qx g
theorem yz{n:Nat}(g:@Yi ⟨.z n h⟩ (Tm.T P N a (KS P N b K) s)):@Yi ⟨.z (n+1) h⟩ (Tm.T P N (.seq a b) K s):=T.qx g
theorem yz0{p:Prop}(g:@Yi ⟨h⟩ p):@Yi ⟨.z 0 h⟩ p:=g
theorem yrg{l:List RI}(g:@Yi ⟨h⟩ (Ug P l (K .normal) s)):@Yi ⟨h⟩ (Tm.T P N (.mJ l) K s):=T.rg g
theorem ydy{q:Nat}{l:List RI}(hm:P.follows .mixedOrders=true) (g:@Yi ⟨h⟩ (Bt P [] q l (K .normal) [] s)):@Yi ⟨h⟩ (Tm.T P N (.draw q l) K s):=T.dy hm g
theorem yay{q:Nat}{l:List RI}{cuts:List Nat}{bs ps:List (List Nat)}(hm:P.follows .mixedOrders=true) (hok:Rs bs l q ps []=true) (g:@Yi ⟨h⟩ (Bt P ps q l (K .normal) [] s)):@Yi ⟨.a ps h⟩ (Tm.T P N (.any cuts q bs l) K s):=T.ay hm ps hok g
theorem yao{q:Nat}{l:List RI}{cuts:List Nat}{bs ps:List (List Nat)}{pl:List (Option Nat)}(hm:P.follows .mixedOrders=true) (hok:Rs bs l q ps pl=true) (hpl:Cn s.m pl=true) (g:@Yi ⟨h⟩ (Gf P pl ps q l (K .normal) [] s)):@Yi ⟨.g ps pl h⟩ (Tm.T P N (.any cuts q bs l) K s):=T.ao hm ps pl hok hpl g
theorem ysk(g:@Yi ⟨h⟩ (K .normal s)):@Yi ⟨h⟩ (Tm.T P N .skip K s):=T.skip g
theorem yxt{id:Nat}(g:@Yi ⟨h⟩ (K (.exit id) s)):@Yi ⟨h⟩ (Tm.T P N (.exit id) K s):=T.exit g
theorem ybk{id:Nat}(g:@Yi ⟨h⟩ (Tm.T P N a (KB id K) s)):@Yi ⟨h⟩ (Tm.T P N (.block id a) K s):=T.bk g
theorem ycd{c:Operand}{t:Bool}(ht:s.ev c=.v (.bool t)) (g:@Yi ⟨h⟩ (gP (t=true) (Tm.T P N a K s) (Tm.T P N b K s))):@Yi ⟨h⟩ (Tm.T P N (.cond c a b) K s):=T.cd ht g
theorem ygi{p q A' B':Prop} [Decidable q] {α:Type}{A B:Option α}{r:α}(h1:q->A=some r->@Yi ⟨h⟩ A') (h2:¬q->B=some r->@Yi ⟨x⟩ B') (hpq:p=q:=by rfl) (e:(if q then A else B)=some r):@Yi ⟨.b h x⟩ (gP p A' B'):=gP.ite e (iff_of_eq hpq) h1 h2
theorem ygo{p q A' B':Prop} [Decidable q] {α:Type}{A B:Option α}{r:α}(h1:q->A=some r->@Yi ⟨.o⟩ A') (h2:¬q->B=some r->@Yi ⟨.o⟩ B') (hpq:p=q:=by rfl) (e:(if q then A else B)=some r):@Yi ⟨.o⟩ (gP p A' B'):=gP.ite e (iff_of_eq hpq) h1 h2
theorem ygc{p q A' B':Prop} [Decidable q] {α:Type}{A B:Option α}{r:α}(h1:q->A=some r->@Yi ⟨h⟩ A') (h2:¬q->B=some r->@Yi ⟨x⟩ B') (hpq:p↔q) (e:(if q then A else B)=some r):@Yi ⟨.b h x⟩ (gP p A' B'):=gP.ite e hpq h1 h2
theorem ygoc{p q A' B':Prop} [Decidable q] {α:Type}{A B:Option α}{r:α}(h1:q->A=some r->@Yi ⟨.o⟩ A') (h2:¬q->B=some r->@Yi ⟨.o⟩ B') (hpq:p↔q) (e:(if q then A else B)=some r):@Yi ⟨.o⟩ (gP p A' B'):=gP.ite e hpq h1 h2
theorem ycq{k:Nat}{p:Prop}{ds ds':List D}{o:D}{m:List Ent}{f:D->List Ent->Prop} [c:Con p (Den P k ds' o)] (e:p) (hf:@Yi ⟨h⟩ (f o m)) (hs:aB (Sq [] [] 9) ds ds'):@Yi ⟨h⟩ (vf P k ds m f):=tG (c.h e) hf hs
theorem ycv{k:Nat}{p:Prop}{ds ds':List D}{o:D}{m:List Ent}{f:D->List Ent->Prop} [c:Con p (Den P k ds' o)] (e:p) (hf:@Yi ⟨h⟩ (f o m)) (hfl:flat o=true) (hs:aB (Sq [] m 9) ds ds'):@Yi ⟨h⟩ (vf P k ds m f):=CC (c.h e) hf hfl hs
theorem ylq{k:Nat}{p:Prop}{ds ds':List D}{o:D}{R:St->Prop}{dst:Option Tmp} [c:Con p (Den P k ds' o)] (e:p) (hf:@Yi ⟨h⟩ (R (s.put dst o))) (hs:aB (Sq [] [] 9) ds ds'):@Yi ⟨h⟩ (jv P k ds [] R s dst):=qG (c.h e) hf hs
theorem ylv{k:Nat}{p:Prop}{ids:List Nat}{ds ds':List D}{o:D}{R:St->Prop}{dst:Option Tmp} [c:Con p (Den P k ds' o)] (e:p) (hf:@Yi ⟨h⟩ (R (s.put dst o))) (hfl:flat o=true) (hi:(ids.all λi=>decide (i<s.m.length))=true) (ht:GB ids ds=true) (hs:aB (Lq s.m) ds ds'):@Yi ⟨h⟩ (jv P k ds ids R s dst):=BC (c.h e) hf hfl hi ht hs
theorem XV{s' S:St}{ρ:Io}(g:aB (Sq ρ s'.m 9) s'.t S.t/\ZA ρ s'.m ρ S.m) (hk:Zv ρ N=true) (h3:(ρ.filterMap (·.1)).Nodup):@Yi ⟨.t ρ⟩ (Tells N s' S):=Tells.q ρ hk h3 g
theorem yrt(g:K .ret s):@Yi ⟨h⟩ (Tm.T P N .ret K s):=T.ret g
theorem yen{rs:List RV}{o:D}(g:fI (qb s rs) s.m o):@Yi ⟨h⟩ (DE rs o .normal s):=LW g
theorem yf{S:Ed}{S':St}{ρ:Io}(hS:ed S s=S') (g:@Yi ⟨.t ρ⟩ (Tells N s S')) (g2:@Yi ⟨h⟩ (Tm.T P N a K S')):@Yi ⟨.f S ρ h⟩ (Tm.T P N a K s):=T.uE g g2
theorem gd{M:List M1}{ρ:Io}{q:Prop}(g:@Yi ⟨.d M ρ x⟩ q):@Yi ⟨.d M ρ x⟩ q:=g
theorem yd{M:List M1}{S':St}{ρ:Io}(hS:fd M s=S') (g:@Yi ⟨.t ρ⟩ (Tells N s S')) (g2:@Yi ⟨h⟩ (Tm.T P N a K S')):@Yi ⟨.d M ρ h⟩ (Tm.T P N a K s):=T.uE g g2
theorem yj[StbC N K] {X β:Type}{n:Nat}{S:X->Ed}{S':X->St}{o:Option X}{f:X->Option β}{r:β}(hS:∀z,ed (S z) s=S' z)
 (ha:∀z,o=some z->True->@Yi ⟨h⟩ (Tm.T P N a (KJ N K S' (.inl z:X⊕Unit)) s)) (hb:Wh n (∀z,f z=some r->@Yi ⟨x⟩ (Tm.T P N b K (S' z)))) (e:o.bind f=some r):@Yi ⟨.j n S h x⟩ (Tm.T P N (.seq a b) K s):=
 jn S' e (λz hz=>ha z hz trivial) λz _ hz=>hb.h z hz
theorem ye[StbC N K] {X R:Type}{n:Nat}{S:X->Ed}{S':X->St}{o:Option (X⊕R)}{f:X⊕R->Option R}{r:R}{p:Prop}(k:p) (hS:∀z,ed (S z) s=S' z)
 (ha:∀z,o=some z->Lk Sum.inr z r p->@Yi ⟨h⟩ (Tm.T P N a (KJ N K S' z) s)) (hb:Wh n (∀z,f (.inl z)=some r->@Yi ⟨x⟩ (Tm.T P N b K (S' z)))) (hf:∀v,f (.inr v)=some v:=by intros;rfl) (e:o.bind f=some r):@Yi ⟨.e n S h x⟩ (Tm.T P N (.seq a b) K s):=by
 obtain⟨z,h1,h2⟩:=vm e;refine T.join S' z (ha z h1 ⟨?_,k⟩) ?_
 .grind
 .rintro y rfl;exact hb.h y h2
theorem yl[StbC N K] {σ β R:Type}{n m id:Nat}{x0:σ}{step:σ->Option (Ex σ β R)}{S:σ->Ed}{B:β->Ed}{S':σ->St}{B':β->St}{f:β⊕R->Option R}{r:R}{p:Prop}{τ:Io}(k:p)
 (hS:∀z,ed (S z) s=S' z) (hB:∀z,ed (B z) s=B' z) (ht:@Yi ⟨.t τ⟩ (Tells N s (S' x0)))
 (ha:Lh n (∀q z,step q=some z->Lk Ex.ret z r p->@Yi ⟨h⟩ (Tm.T P N a (KL N id K S' B' z) (S' q)))) (hb:Wh m (∀z,f (.inl z)=some r->@Yi ⟨x⟩ (K .normal (B' z)))) (hf:∀v,f (.inr v)=some v:=by intros;rfl) (e:(fa step x0).bind f=some r) :
 @Yi ⟨.l n m S B τ h x⟩ (Tm.T P N (.block id (.loop a)) K s):=by
 obtain⟨y,h1,h2⟩:=vm e;refine lm h1 S' B' ht (λq z hz hv=>ha.h q z hz ⟨?_,k⟩) ?_
 .grind
 .rintro b rfl;exact hb.h b h2
theorem yl'[StbC N K] {σ β R ρ:Type}{n m id:Nat}{x0:σ}{step:σ->Option (Ex σ β ρ)}{S:σ->Ed}{B:β->Ed}{S':σ->St}{B':β->St}{f:β⊕ρ->Option R}{r:R}{τ:Io}
 (hS:∀z,ed (S z) s=S' z) (hB:∀z,ed (B z) s=B' z) (ht:@Yi ⟨.t τ⟩ (Tells N s (S' x0)))
 (ha:Lh n (∀q z,step q=some z->True->@Yi ⟨h⟩ (Tm.T P N a (KL N id K S' B' z) (S' q)))) (hb:Wh m (∀z,f (.inl z)=some r->@Yi ⟨x⟩ (K .normal (B' z)))) (e:(fa step x0).bind f=some r) :
 @Yi ⟨.l n m S B τ h x⟩ (Tm.T P N (.block id (.loop a)) K s):=by
 obtain⟨y,h1,h2⟩:=vm e;refine lm h1 S' B' ht (λq z hz _=>ha.h q z hz trivial) ?_;rintro b rfl;exact hb.h b h2
theorem yu[StbC N K] {σ R:Type}{n id:Nat}{x0:σ}{step:σ->Option (Ex σ Empty R)}{S:σ->Ed}{S':σ->St}{f:Empty⊕R->Option R}{r:R}{p:Prop}{τ:Io}(k:p)
 (hS:∀z,ed (S z) s=S' z) (ht:@Yi ⟨.t τ⟩ (Tells N s (S' x0)))
 (ha:Lh n (∀q z,step q=some z->Lk Ex.ret z r p->@Yi ⟨h⟩ (Tm.T P N a (KL N id K S' (λq:Empty=>q.elim) z) (S' q)))) (hf:∀v,f (.inr v)=some v:=by intros;rfl) (e:(fa step x0).bind f=some r) :
 @Yi ⟨.u n S τ h⟩ (Tm.T P N (.block id (.loop a)) K s):=by
 obtain⟨y,h1,h2⟩:=vm e;refine lm h1 S' (λq:Empty=>q.elim) ht (λq z hz hv=>ha.h q z hz ⟨?_,k⟩) (λq=>q.elim)
 grind
theorem vw{n:Nat}{p:Prop}(h:p):Wh n p:=⟨h⟩
theorem vl{n:Nat}{p:Prop}(h:p):Lh n p:=⟨h⟩
theorem yT:@Yi ⟨h⟩ True:=trivial
end
section
variable {α β:Type} {e:α->D} {l r:List α} {i:Int} {y:α} {b:Nat} {g:List α->Option β} {z:β}
theorem bA[Enc α e] (h:(app b l r).bind g=some z):∃x,(l.length+r.length)*b<=2 ^ 47/\l.map e++r.map e=x.map e/\g x=some z:=by
 obtain⟨x,h1,h2⟩:=vm h;exact⟨x,(tF (e:=e) h1).1,(tF h1).2,h2⟩
theorem bP[Enc α e] (h:(put l i y).bind g=some z):∃x,i.toNat<l.length/\(l.map e).set i.toNat (e y)=x.map e/\g x=some z:=by
 obtain⟨x,h1,h2⟩:=vm h;exact⟨x,(pQ (e:=e) h1).1,(pQ h1).2,h2⟩
theorem bM[Enc α e] {n c:Int}(h:(GD b y n c).bind g=some z):∃x,0<=n/\n<=c/\c<=2 ^ 62/\c.toNat*b<=2 ^ 48/\jaa n.toNat (e y)=x.map e/\g x=some z:=by
 obtain⟨x,h1,h2⟩:=vm h;obtain⟨h3,h4,h5,h6,h7⟩:=QP (e:=e) h1
 grind
theorem bZ(h:(Fs l 0).bind g=some z):g []=some z:=by
 grind[Fs]
theorem bH[Enc α e] (h:(Fs l i).bind g=some z):∃x,0<=i/\i.toNat<=l.length/\(l.map e).take i.toNat=x.map e/\((l.map e).drop 0).take (i.toNat-0)=x.map e/\g x=some z:=by
 obtain⟨x,h1,h2⟩:=vm h;obtain⟨h3,h4,h5⟩:=KV (e:=e) h1
 grind
theorem bL[Enc α e] (h:(gC l i).bind g=some z):∃x,0<=i/\i.toNat<=l.length/\i.toNat+x.length<=l.length/\l.length-i.toNat=x.length/\((l.map e).take l.length).drop i.toNat=x.map e/\((l.map e).drop i.toNat).take x.length=x.map e/\g x=some z:=by
 obtain⟨x,h1,h2⟩:=vm h;obtain⟨h3,h4,h5,h6,h7⟩:=J0 (e:=e) h1
 grind[VK]
theorem bQ{k:IntKind}{a c:Int}{g:Int->Option β}(h:(quo k a c).bind g=some z):∃x,¬c=0/\da k (a.tdiv c)=x/\g x=some z:=by
 obtain⟨x,h1,h2⟩:=vm h
 grind[F9]
theorem bR{k:IntKind}{a c:Int}{g:Int->Option β}(h:(rem k a c).bind g=some z):∃x,¬c=0/\a.tmod c=x/\g x=some z:=by
 obtain⟨x,h1,h2⟩:=vm h;exact⟨x,(EW h1).1,(EW h1).2,h2⟩
theorem bX{s:ByteArray}{i:Int}{g:Int->Option β}(h:(Cs s i).bind g=some z):∃x,Cs s i=some x/\g x=some z:=vm h
end
theorem cT{a b:Bool}(h:a=b):a=b:=h
variable {P:Program}
theorem sG{k:Nat}{ds:List D}{m:List Ent}{R:D->List Ent->Prop}{d2:D}{m2:List Ent}(h:CallT P k ds m R) (ht:∀d m',R d m'->Tells m.length ⟨[d],m'⟩ ⟨[d2],m2⟩):CallT P k ds m λd m'=>d=d2/\m'=m2:=by
 refine⟨h.1,λG w vs hv hi=>(h.2 G w vs hv hi).mono ?_⟩;rintro e w' ⟨v,d,m',G',rfl,hR,hvd,hi',hs⟩;have hr:Rel G' w' { tmps:=#[v],defers:=[] } ⟨[d],m'⟩:=⟨by simp only[VsRel];simp_all,hi',rfl⟩;have hN:m.length=G.n:=hi.n.symm;have h0:=hs.BV (Nat.le_of_eq hN);obtain⟨G'',h3,h4⟩:=xp (ht d m' hR) h0.n hr;have hT:=h3.t;simp only[VsRel]at hT;obtain⟨u,us,he,h1,_⟩:=hT;injection he with he _;subst he;have h5:=h0.trans h4;rw[hN]at h5;exact⟨_,d2,m2,G'',rfl,⟨rfl,rfl⟩,h1,h3.inv,h5.toStep⟩
def EI(N:Nat) (rs:List RV) (S:St) (e:Exit) (s:St):Prop:=
 match e with
 |.normal=>∃S',Tells N s S'/\∃ds,qb S' rs=some ds/\Tells N ⟨[um ds],S'.m⟩ S
 |.ret=>∃S',Tells N s S'/\∃ds,qb S' rs=some ds/\Tells N ⟨[um ds],S'.m⟩ S
 |_=>False
def gI(N:Nat) (r:Option (List D)) (m:List Ent) (S:St):Prop:=∃ds,r=some ds/\Tells N ⟨[um ds],m⟩ S
theorem gG{N:Nat}{rs:List RV}{S s:St}(h:gI N (qb s rs) s.m S):EI N rs S .ret s:=by
 obtain⟨ds,h1,h2⟩:=h;exact⟨s,.refl s,ds,h1,h2⟩
theorem KW{N:Nat}{rs:List RV}{S s:St}(h:gI N (qb s rs) s.m S):EI N rs S .normal s:=by
 obtain⟨ds,h1,h2⟩:=h;exact⟨s,.refl s,ds,h1,h2⟩
theorem du{N:Nat}{ds:List D}{m:List Ent}{S:St}:gI N (some ds) m S=Tells N ⟨[um ds],m⟩ S:=by simp[gI]
@[congr] theorem TX{N:Nat} {r r':Option (List D)} {m:List Ent} {S:St} (h:r=r'):gI N r m S=gI N r' m S:=by rw[h]
instance {N:Nat}{rs:List RV}{S:St}:StbC N (EI N rs S):=⟨by
 rintro s S' h ⟨S1,h1,h2⟩;exact⟨S1,h.trans h1,h2⟩⟩
theorem Kv{k:Nat}(KF:Kf P k) {ds:List D}{m m2:List Ent}{d2:D}(w:Nat) (hw:KF.F.ntmps=ds.length+w) (h:T P m.length KF.F.code (EI m.length KF.F.results ⟨[d2],m2⟩) ⟨ds++Tm.ds w [],m⟩):CallT P k ds m λd m'=>d=d2/\m'=m2:=by
 refine sG (R:=λd m'=>Tells m.length ⟨[d],m'⟩ ⟨[d2],m2⟩) (Ry KF.ok KF.nm ?_) λ_ _ h=>h;rw[hw,aac,←sA];refine T.X1 (h.mono ?_);have key:∀(e:Exit) (s:St),(∀s',Nx KF.F.results (λd m'=>Tells m.length ⟨[d],m'⟩ ⟨[d2],m2⟩) e s' = ∃ds,qb s' KF.F.results=some ds/\Tells m.length ⟨[um ds],s'.m⟩ ⟨[d2],m2⟩)->(∃S',Tells m.length s S'/\∃ds,qb S' KF.F.results=some ds/\Tells m.length ⟨[um ds],S'.m⟩ ⟨[d2],m2⟩)->KK m.length (Nx KF.F.results λd m'=>Tells m.length ⟨[d],m'⟩ ⟨[d2],m2⟩) e s:=by
  intro e s he ⟨S,h1,h2⟩ G w a hN hr
  grind[xp]
 intro e s hs
 cases e with
 |normal=>exact key _ s (λ_=>rfl) hs
 |ret=>exact key _ s (λ_=>rfl) hs
 |_=>exact(hs:False).elim
theorem OK{a:Int}{k:IntKind}:ag .shr .u64 a k 1=some (.int .u64 (a.fdiv 2)):=by
 have h:((2 ^ (min (1:Int).toNat IntKind.u64.bits):Nat):Int)=2:=by decide
 grind[ag]
def mL:List Int:=[31,28,31,30,31,30,31,31,30,31,30,31]
def U2(n:Int):D:=.v (.int .i64 n)
theorem nW{s:St}:s.ev (.global 2)=.pt (.agg (mL.map U2)):=gaa rfl rfl
theorem dP{n:Int}:U2 n=.v (.int .i64 n):=gaa rfl rfl
def lst{α:Type}(l:List α):Option (List α):=some l
def mka{α:Type}(b:Nat) (z:α) (n:Int):Option (List α):=if 0<n/\n.toNat*b<=2 ^ 47 then some (jaa n.toNat z)else none
def Y1{α:Type}(l:List α) (lo:Int) (v:List α) (z:α):Option (List α):=if 0<=lo/\lo.toNat+v.length<=l.length then some (l.take lo.toNat++jaa v.length z++l.drop (lo.toNat+v.length))else none
section
variable {α β:Type} {e:α->D} {l v:List α} {i:Int} {y:α} {b:Nat} {g:List α->Option β} {z:β}
theorem bK[Enc α e] (h:(mka b y i).bind g=some z):∃x,0<i/\i.toNat*b<=2 ^ 47/\jaa i.toNat (e y)=x.map e/\g x=some z:=by
 obtain⟨x,h1,h2⟩:=vm h;unfold mka at h1;split at h1
 .rename_i hc;obtain rfl:=Iaa h1;exact⟨_,hc.1,hc.2,List.map_replicate.symm,h2⟩
 simp_all
theorem bC[Enc α e] (h:(Y1 l i v y).bind g=some z):∃x,(l.map e).take i.toNat++jaa v.length (e y)++(l.map e).drop (i.toNat+v.length)=x.map e/\g x=some z:=by
 obtain⟨x,h1,h2⟩:=vm h;unfold Y1 at h1;split at h1
 .obtain rfl:=Iaa h1;exact⟨_,by simp,h2⟩
 simp_all
theorem bV[Enc α e] (h:(lst l).bind g=some z):∃x,l.map e=x.map e/\g x=some z:=by
 obtain⟨x,h1,h2⟩:=vm h;obtain rfl:=Iaa h1
 grind
theorem bG{g:Int->Option β}(h:(idx mL i).bind g=some z):∃x,0<=i/\mL[i.toNat]?=some x/\i.toNat<12/\g x=some z:=bO h
theorem zn:type_of% (And.intro (And.intro @OK @nW) (And.intro @dP @uac)):=And.intro (And.intro @OK @nW) (And.intro @dP @uac)
end
def TR(P:Program) (k:Nat) (S:Nat) (l l':List D):Prop:=∀m id Ja,m[id]?=some (.live S Ja l)->CallT P k [.own id Ja] m λd m'=>d=.own id (Ja+1)/\m'=m.set id (.live S (Ja+1) l')
section
open Go.Sort
theorem RO{k:FuncId}(hE:Enters P k) {zs ys:List Int}(hlen:ys.length<=zs.length)
 (h1:∀w b off cap,Holds (Value.int .i64) w b off zs.toArray->zs.length<=cap->Calls P k #[.slice (some ⟨b,off,none⟩) zs.length cap] w λe w'=>e=.returned (.slice (some ⟨b,off,none⟩) ys.length cap)/\∃n xs,xs.length+ys.length=zs.length/\w'=grow (putRow (Value.int .i64) (Sort.ahead w n) b off (ys++xs).toArray) #[])
 (h0:∀w cap,Calls P k #[.slice none 0 cap] w λe w'=>e=.returned (.slice none 0 cap)/\w'=w):TR P k 1 (zs.map eI) (ys.map eI):=
 λm id Ja hm=>tJ hE hm hlen h1 h0
end
section
variable {h:Hi} {k id S Ja:Nat} {p:Prop} {pre post l l' ds:List D} {o:D} {m:List Ent} {f:D->List Ent->Prop}
theorem ycA[c:Con p (TR P k S l l')] (e:p) (hf:@Yi ⟨h⟩ (f (.own id (Ja+1)) (m.set id (.live S (Ja+1) l')))) (hm:m[id]?=some (.live S Ja l)):@Yi ⟨h⟩ (vf P k [.own id Ja] m f):=Cj (c.h e m id Ja hm) hf
theorem ycf{d d':D}{q:List D} [c:Con p (Den P k ([d']++q) o)] (e:p) (hq:la q=true) (hf:@Yi ⟨h⟩ (f o m)) (hs:Sq [] [] 9 d d'):@Yi ⟨h⟩ (vf P k (d::q) m f):=nO (c.h e) hq hf hs
theorem ycC[c:Con p (HB P k pre post S l o)] (e:p) (hf:@Yi ⟨h⟩ (f o (m.set id .gone))) (hds:ds=pre++.own id Ja::post) (hm:m[id]?=some (.live S Ja l)):@Yi ⟨h⟩ (vf P k ds m f):=PK (c.h e) hds hm hf
theorem ycW[c:Con p (MN P k pre post S l l' o)] (e:p) (hf:@Yi ⟨h⟩ (f o (m.set id (.live S Ja l')))) (hds:ds=pre++.own id Ja::post) (hm:m[id]?=some (.live S Ja l)):@Yi ⟨h⟩ (vf P k ds m f):=oS (c.h e) hds hm hf
end
def St.hd(s:St):D:=s.t.headD .dead
theorem yi{X β:Type}{h x:Hi}{k:Nat}{KF:Kf P k}{n w:Nat}{S:X->Ed}{d2:X->D}{m2:X->List Ent}{m:List Ent}{ds:List D}{f:D->List Ent->Prop}{o:Option X}{g:X->Option β}{r:β}
 (hS:∀z,ed (S z) ⟨[.dead],m⟩=⟨[d2 z],m2 z⟩) (hw:KF.F.ntmps=ds.length+w)
 (ha:∀z,o=some z->True->@Yi ⟨h⟩ (T P m.length KF.F.code (EI m.length KF.F.results ⟨[d2 z],m2 z⟩) ⟨ds++Tm.ds w [],m⟩))
 (hb:Wh n (∀z,g z=some r->@Yi ⟨x⟩ (f (d2 z) (m2 z)))) (e:o.bind g=some r):@Yi ⟨.i KF n w S h x⟩ (vf P k ds m f):=by
 obtain⟨z,h1,h2⟩:=vm e;exact Cj (Kv KF w hw (ha z h1 trivial)) (hb.h z h2)
theorem gi0{X:Type}{h x:Hi}{k j:Nat}{KF:Kf P j}{n w:Nat}{S:X->Ed}{m:List Ent}{ds:List D}{f:D->List Ent->Prop}(g:@Yi ⟨.i KF n w S h x⟩ (vf P k ds m f)):@Yi ⟨.i KF n w S h x⟩ (vf P k ds m f):=g
structure Ck (p q:Prop):Prop where
 h:p
 k:q
instance {N:Nat}{K:Exit->St->Prop}:StbC N (KK N K):=⟨by
 intro s S h k G w a hN hr;obtain⟨G1,h1,h2⟩:=xp h hN hr;obtain⟨s',G2,h3,h4,h5⟩:=k G1 w a h2.n h1;exact⟨s',G2,h3,h4,h2.trans h5⟩⟩
def JS(r:Option (List D)) (f:D->List Ent->Prop) (m:List Ent):Prop:=∃ds,r=some ds/\f (um ds) m
theorem CM{ds:List D}{f:D->List Ent->Prop}{m:List Ent}:JS (some ds) f m=f (um ds) m:=by simp[JS]
theorem yc{X β:Type}{h:Hi}{k:Nat}{KF:Kf P k}{w:Nat}{m:List Ent}{ds:List D}{f:D->List Ent->Prop}{o:Option X}{g:X->Option β}{r:β}{q:Prop}(k':q) (hw:KF.F.ntmps=ds.length+w)
 (ha:∀z,o=some z->Ck (g z=some r) q->@Yi ⟨h⟩ (T P m.length KF.F.code (KK m.length (Nx KF.F.results f)) ⟨ds++Tm.ds w [],m⟩)) (e:o.bind g=some r):@Yi ⟨.c KF w h⟩ (vf P k ds m f):=by
 obtain⟨z,h1,h2⟩:=vm e;refine Ry KF.ok KF.nm ?_;rw[hw,aac,←sA];exact T.X1 (ha z h1 ⟨h2,k'⟩)
theorem gc0{h:Hi}{k j:Nat}{KF:Kf P j}{w:Nat}{m:List Ent}{ds:List D}{f:D->List Ent->Prop}(g:@Yi ⟨.c KF w h⟩ (vf P k ds m f)):@Yi ⟨.c KF w h⟩ (vf P k ds m f):=g
theorem gv{x:Hi}{p:Prop}(g:@Yi ⟨.v x⟩ p):@Yi ⟨.v x⟩ p:=g
theorem yvr{x:Hi}{M:Nat}{rs:List RV}{f:D->List Ent->Prop}{s:St}(g:@Yi ⟨x⟩ (JS (qb s rs) f s.m)):@Yi ⟨.v x⟩ (KK M (Nx rs f) .ret s):=by
 obtain⟨ds,h1,h2⟩:=g;exact KK.of (show Nx rs f .ret s from⟨ds,h1,h2⟩)
theorem yvn{x:Hi}{M:Nat}{rs:List RV}{f:D->List Ent->Prop}{s:St}(g:@Yi ⟨x⟩ (JS (qb s rs) f s.m)):@Yi ⟨.v x⟩ (KK M (Nx rs f) .normal s):=by
 obtain⟨ds,h1,h2⟩:=g;exact KK.of (show Nx rs f .normal s from⟨ds,h1,h2⟩)
theorem yno{α:Type}{r:α}{p:Prop}(h:none=some r):p:=nomatch h
theorem yrr{h:Hi}{K:Exit->St->Prop}{s:St}{N:Nat}(g:@Yi ⟨h⟩ (K .ret s)):@Yi ⟨h⟩ (Tm.T P N .ret K s):=T.ret g
theorem yrI{N:Nat}{h:Hi}{rs:List RV}{S s:St}(g:@Yi ⟨h⟩ (gI N (qb s rs) s.m S)):@Yi ⟨h⟩ (EI N rs S .ret s):=gG g
theorem ynI{N:Nat}{h:Hi}{rs:List RV}{S s:St}(g:@Yi ⟨h⟩ (gI N (qb s rs) s.m S)):@Yi ⟨h⟩ (EI N rs S .normal s):=KW g
class FrO (d:D):Prop where
 h:na d=true
instance {α:Type}{e:α->D} [Fr e] {x:α}:FrO (e x):=⟨Fr.h x⟩
instance {l:List D} [FrL l]:FrO (.tup l):=⟨FrL.h⟩
def dep:Nat->D->Bool
 |0,_=>false
 |k+1,.agg l=>l.all (dep k)
 |k+1,.tup l=>l.all (dep k)
 |_+1,.sl _ _=>true
 |k+1,.pt d=>dep k d
 |_+1,.v _=>true
 |_,_=>false
theorem Uv(m:List Ent):∀{k:Nat}{d:D},na d=true->dep k d=true->Wd k m d=d
 |0,_,_,h=>by grind[dep]
 |k+1,.agg l,h1,h2=>by
  simp only[dep,Uaa]at h2;simp only[na,Zk]at h1;simp only[Wd];congr 1;exact(Hac λd hd=>Uv m (h1 d hd) (h2 d hd)).trans (Gad _)
 |k+1,.tup l,h1,h2=>by
  simp only[dep,Uaa]at h2;simp only[na,Zk]at h1;simp only[Wd];congr 1;exact(Hac λd hd=>Uv m (h1 d hd) (h2 d hd)).trans (Gad _)
 |_+1,.sl _ l,h1,_=>by
  simp_all[na,Wd]
 |k+1,.pt d,h1,h2=>by
  simp only[dep]at h2;simp only[na]at h1;simp only[Wd,Uv m h1 h2]
 |_+1,.v _,_,_=>rfl
 |k+1,.own ..,_,h=>by grind[dep]
 |k+1,.view ..,_,h=>by grind[dep]
 |k+1,.ref ..,_,h=>by grind[dep]
 |k+1,.fn ..,_,h=>by grind[dep]
 |k+1,.mp ..,_,h=>by grind[dep]
 |k+1,.ifc ..,_,h=>by grind[dep]
 |k+1,.dead,_,h=>by grind[dep]
theorem cE{id Ja:Nat}:∀{l:List D},la l=true->l.map (CB id Ja)=l
 |[],_=>rfl
 |d::l,h=>by
  simp only[la,paa]at h;rw[Maa,cE h.2];congr 1;have h1:=h.1;cases d<;>simp_all[CB,na]
def UR(P:Program) (k:Nat) (pre post:List D) (S:Nat) (l l':List D) (o:D):Prop:=la pre=true/\la post=true/\∀m id Ja,m[id]?=some (.live S Ja l)->CallT P k (pre++.ref id Ja 0 0::post) m λd m'=>d=o/\m'=m.set id (.live S Ja l')
theorem UR.of{k:Nat}{pre post:List D}{S:Nat}{l l':List D}{o:D}(n:Nat) (K:Kf P k) (h:T P 1 K.F.code (EI 1 K.F.results ⟨[o],[.live S 0 l']⟩) ⟨(pre++.ref 0 0 0 0::post)++Tm.ds n [],[.live S 0 l]⟩)
 (hpre:la pre=true:=by exact FrL.h) (hpost:la post=true:=by exact FrL.h) (hl:la l=true:=by exact FrL.h) (ho:na o=true:=by exact FrO.h) (hl':la l'=true:=by exact FrL.h) (hd:dep 8 o=true:=by rfl) (hd':l'.all (dep 8)=true:=by rfl)
 (hn:K.F.ntmps=(pre++.ref 0 0 0 0::post).length+n:=by rfl):UR P k pre post S l l' o:=by
 refine⟨hpre,hpost,λm id Ja hid=>?_⟩;have h1:=Kv K n hn (m:=[.live S 0 l]) (m2:=[.live S 0 l']) (d2:=o) h;have e1:(pre++.ref id Ja 0 0::post).map (CB id Ja)=pre++.ref 0 0 0 0::post:=by
  simp_all[CB,cE]
 refine(mO hid hl (m1:=[.live S 0 l']) rfl (by rw[e1];omega)).mono ?_;rintro d m' ⟨rfl,rfl⟩;refine⟨Uv _ ho hd,?_⟩;congr 2;rw[Uaa]at hd';exact(Hac λd hd=>Uv _ (Zk.1 hl' d hd) (hd' d hd)).trans (Gad _)
theorem ycE{pre post:List D}{S id Ja k:Nat}{l l' ds:List D}{o:D}{m:List Ent}{f:D->List Ent->Prop}{h:Hi}{p:Prop} [c:Con p (UR P k pre post S l l' o)] (e:p) (hf:@Yi ⟨h⟩ (f o (m.set id (.live S Ja l')))) (hds:ds=pre++.ref id Ja 0 0::post) (hm:m[id]?=some (.live S Ja l)):@Yi ⟨h⟩ (vf P k ds m f):=by
 subst hds;exact Cj ((c.h e).2.2 m id Ja hm) hf
theorem gce{h:Hi}{k:FuncId}{ds:List D}{ids:List Nat}{fp:List (List Nat)}{p:List Nat}{x:Nat}{f:D->Ent->Prop}{s:St}(g:@Yi ⟨h⟩ (xF P k ds ids fp p x f s)):@Yi ⟨h⟩ (xF P k ds ids fp p x f s):=g
theorem ywE{pre post:List D}{S Ja k:Nat}{l l' ds:List D}{o:D}{h:Hi}{q:Prop}{ids:List Nat}{fp:List (List Nat)}{p:List Nat}{x:Nat}{f:D->Ent->Prop}{s:St} [c:Con q (UR P k pre post S l l' o)] (e:q) (hf:@Yi ⟨h⟩ (f o (.live S Ja l')))
 (hds:ds=pre++.ref x Ja 0 0::post) (hm:s.m[x]?=some (.live S Ja l)) (hx:(ids.elem x&&Jy fp ids p)=true) (hi:ids=[x]):@Yi ⟨h⟩ (xF P k ds ids fp p x f s):=by
 subst hds;subst hi;have hlt:x<s.m.length:=(Haa.1 hm).1;refine⟨hx,o,_,⟨λid hid=>by simp_all,λm hmm=>?_⟩,hf⟩;exact(c.h e).2.2 m x Ja (by simp_all)
theorem ydp{h:Hi}{N:Nat}{q:Nat}{l:List RI}{K:Exit->St->Prop}{s:St}{ps:List (List Nat)}{pl:List (Option Nat)}(hm:P.follows .mixedOrders=true) (hps:ps=Hv q) (hcl:Ix pl l=true) (hpl:Cn s.m pl=true) (g:@Yi ⟨h⟩ (Gf P pl ps q l (K .normal) [] s)):@Yi ⟨.g ps pl h⟩ (Tm.T P N (.draw q l) K s):=T.dp hm ps pl hps hcl hpl g
def QN(m:List Ent):D->D->Prop
 |.agg a,.agg b=>aB (Lq m) a b
 |d,e=>Lq m d e
def dJ(ids:List Nat) (ds:List D):Bool:=ds.all λd=>match d with|.agg a=>GB ids a|d=>GB ids [d]
theorem lL{m m':List Ent}{ids:List Nat}(hm:∀id∈ids,m'[id]?=m[id]?):∀{a b:List D},aB (QN m) a b->dJ ids a=true->Sbs [] m' a b
 |[],[],_,_=>.nil
 |d::l,e::r,h,ht=>by
  simp only[dJ,Xab,paa]at ht;have ih:=lL hm h.2 (by grind[dJ]);have h1:=h.1;have ht1:=ht.1;unfold QN at h1;split at h1
  .exact .agg (qC hm h1 ht1) ih
  .rename_i hne;have ht2:GB ids [d]=true:=by
    grind[GB,ld]
   exact Sbs.app (a:=[d]) (b:=[e]) (qC hm ⟨h1,trivial⟩ ht2) ih
 |[],_::_,h,_=>h.elim
 |_::_,[],h,_=>h.elim
theorem lO{k:Nat}{ids:List Nat}{ds ds':List D}{o:D}{R:St->Prop}{s:St}{dst:Option Tmp}(h:Den P k ds' o) (hf:R (s.put dst o)) (hfl:flat o=true) (hi:(ids.all λi=>decide (i<s.m.length))=true) (ht:dJ ids ds=true) (hs:aB (QN s.m) ds ds'):jv P k ds ids R s dst:=by
 refine⟨o,⟨λid hid=>?_,λm hm=>?_⟩,hf⟩
 .simp_all
 .exact Qx h (lL hm hs ht) hfl ⟨rfl,rfl⟩
theorem ylw{k:Nat}{h:Hi}{s:St}{p:Prop}{ids:List Nat}{ds ds':List D}{o:D}{R:St->Prop}{dst:Option Tmp} [c:Con p (Den P k ds' o)] (e:p) (hf:@Yi ⟨h⟩ (R (s.put dst o))) (hfl:flat o=true) (hi:(ids.all λi=>decide (i<s.m.length))=true) (ht:dJ ids ds=true) (hs:aB (QN s.m) ds ds'):@Yi ⟨h⟩ (jv P k ds ids R s dst):=lO (c.h e) hf hfl hi ht hs
section
variable {m:List Ent} {S x y lo n s:Nat} {a b:List D} {e:D}
theorem FP:QN m (.agg a) (.agg b)=aB (Lq m) a b:=gaa rfl rfl
theorem GP:QN m (.own x y) (.sl S b)=Lq m (.own x y) (.sl S b):=gaa rfl rfl
theorem eL:QN m (.view x y lo n) (.sl S b)=Lq m (.view x y lo n) (.sl S b):=gaa rfl rfl
theorem HP{z:Nat}:QN m (.ref x y z s) (.pt e)=Lq m (.ref x y z s) (.pt e):=gaa rfl rfl
theorem M8{z:Value}:QN m (.v z) e=Lq m (.v z) e:=by cases e<;>rfl
theorem sW{z:List D}:QN m (.sl S z) e=Lq m (.sl S z) e:=by cases e<;>rfl
theorem rW{z:D}:QN m (.pt z) e=Lq m (.pt z) e:=by cases e<;>rfl
theorem zw:type_of% (And.intro (And.intro (And.intro @FP @GP) (And.intro @eL @HP)) (And.intro (And.intro @M8 @sW) @rW)):=And.intro (And.intro (And.intro @FP @GP) (And.intro @eL @HP)) (And.intro (And.intro @M8 @sW) @rW)
end
end Go.Tm
