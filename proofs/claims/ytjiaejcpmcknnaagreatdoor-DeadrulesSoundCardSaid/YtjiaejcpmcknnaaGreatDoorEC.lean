/-
  The engine: a part of the proof that trees of values are carried along by the program: no condition.
-/
import Derived.Test.YtjiaejcpmcknnaaGreatDoorEB
import Derived.ProofKit
import Derived.OpenShut
import Derived.WideShapes
import Derived.Lib.LaidTab
import Derived.SizedLaws
import Derived.Sort.Row
import Derived.Sort.Grow
import Derived.KernelRfl
open Bool renaming and_eq_true->Vaa,and_true->Yaa,true_and->Iab
open Classical renaming not_not->cab
open Eq renaming trans->Naa
open List renaming all_cons->lac,all_eq_true->Nab,append_nil->vab,cons_append->nab,contains_iff_mem->Cab,drop_drop->Kad,drop_zero->lad,eq_nil_of_length_eq_zero->gab,ext_getElem?->xac,foldlM->Xae,getD_cons_succ->zab,getD_cons_zero->Lab,getElem?_cons_succ->Wab,getElem?_cons_zero->Kab,getElem?_eq_getElem->Maa,getElem?_eq_some_iff->yab,getElem_mem->Qaa,length_cons->sab,length_map->nac,length_nil->Xab,map_congr_left->Kac,map_cons->xab,map_id->Jae,map_nil->Tac,mem_append->Jab,mem_cons->kac,mem_map_of_mem->nae,nil_append->Uab,replicate->Oaa,replicate_succ->cac,replicate_zero->nad,take_length->Eac,take_of_length_le->Yad
open Nat renaming add_sub_cancel_left->Wac,le_refl->dab,lt_or_ge->sac,lt_succ_self->Vad,not_lt_zero->fae,sub_zero->ead,zero_add->eac,zero_le->Dab,zero_lt_succ->Eae
open Option renaming bind_eq_some_iff->qac,map_eq_some_iff->Paa,map_some->rac
open Option.some renaming inj->oab,injEq->wab
open Prod renaming fst->wae
open Prod.mk renaming injEq->mab
set_option linter.all false
namespace Go.Tm
inductive W where
 |c (c:C)
 |l (l:List RI)
 |an (q:Nat) (bs:List (List Nat)) (l:List RI)
 |yo (pl:List (Option Nat)) (ps fp:List (List Nat)) (q:Nat) (l:List RI)
 |f (k:Nat) (ds:List D)
 |p (k:Nat) (ds:List D)
 |q (k:Nat) (ds:List D)
 |w (p k:Nat) (ds:List D)
section
variable {P:Program} {FT:Nat->Option (Fun×Nat)} {O:Nat->List D->Option D}
end
variable {α:Type}
noncomputable section
def OG(k:IntKind):Int:=
 match k with
 |.i8=>256|.i16=>65536|.i32=>4294967296|.i64=>18446744073709551616
 |.u8=>256|.u16=>65536|.u32=>4294967296|.u64=>18446744073709551616
theorem wQ(k:IntKind):OG k=2 ^ k.bits:=by cases k<;>rfl
def RJ(n h m:Int):Int:=bif decide (n % m>=h)then n % m-m else n % m
def ca(k:IntKind) (n:Int):Int:=
 match k with
 |.i8=>RJ n 128 256
 |.i16=>RJ n 32768 65536
 |.i32=>RJ n 2147483648 4294967296
 |.i64=>RJ n 9223372036854775808 18446744073709551616
 |.u8=>n % 256
 |.u16=>n % 65536
 |.u32=>n % 4294967296
 |.u64=>n % 18446744073709551616
theorem qw(k:IntKind) (n:Int):ca k n=k.wrap n:=by
 cases k<;>simp[ca,RJ,IntKind.wrap,IntKind.bits,IntKind.signed,cond_eq_ite]
def nE(op:Nat->Nat->Nat) (k:IntKind) (x y:Int):Value:=.int k (ca k (op (x % OG k).toNat (y % OG k).toNat:Nat))
theorem wS(k:IntKind) (x:Int):(BitVec.ofInt k.bits x).toNat=(x % OG k).toNat:=by
 rw[BitVec.toNat_ofInt,wQ];norm_cast
def th(op:BinOp) (j:IntKind) (a:Int) (k:IntKind) (b:Int):Option Value:=
 match op with
 |.add=>bif decide (j=k)then some (.int j (ca j (a+b)))else none
 |.sub=>bif decide (j=k)then some (.int j (ca j (a-b)))else none
 |.mul=>bif decide (j=k)then some (.int j (ca j (a*b)))else none
 |.eql=>bif decide (j=k)then some (.bool (a==b))else none
 |.neq=>bif decide (j=k)then some (.bool (a !=b))else none
 |.lss=>bif decide (j=k)then some (.bool (decide (a<b)))else none
 |.leq=>bif decide (j=k)then some (.bool (decide (a<=b)))else none
 |.gtr=>bif decide (j=k)then some (.bool (decide (b<a)))else none
 |.geq=>bif decide (j=k)then some (.bool (decide (b<=a)))else none
 |.and=>bif decide (j=k)then some (nE Nat.land j a b)else none
 |.or=>bif decide (j=k)then some (nE Nat.lor j a b)else none
 |.xor=>bif decide (j=k)then some (nE Nat.xor j a b)else none
 |.quo=>bif decide (j=k)&&!decide (b=0)then some (.int j (ca j (a.tdiv b)))else none
 |.rem=>bif decide (j=k)&&!decide (b=0)then some (.int j (a.tmod b))else none
 |.shl=>bif decide (b<0)then none else some (.int j (ca j (a*((2 ^ (min b.toNat j.bits):Nat):Int))))
 |.shr=>bif decide (b<0)then none else some (.int j (a.fdiv ((2 ^ (min b.toNat j.bits):Nat):Int)))
 |op=>yg (binOp op 0 (.int j a) (.int k b))
theorem vY(op:BinOp) (j:IntKind) (a:Int) (k:IntKind) (b:Int):th op j a k b=yg (binOp op 0 (.int j a) (.int k b)):=by
 have c:∀{α:Type} (x:String),yg (stuck x:Sem α)=none:=λ_=>rfl;have f:∀{α:Type} (x:α),yg (pure x:Sem α)=some x:=λ_=>rfl;have d:∀{α:Type} x,yg (runtimePanic x:Sem α)=none:=λ_=>rfl;cases op
 case shl=>
  simp only[th,binOp,Op.shift,cond_eq_ite,decide_eq_true_eq];split<;>simp[c,f,d,qw]
 case shr=>
  simp only[th,binOp,Op.shift,cond_eq_ite,decide_eq_true_eq];split<;>simp[c,f,d]
 all_goals
  by_cases e:j=k
  .subst e;simp[th,binOp,Op.intArith,Op.intCmp,Op.intBits,Op.intDiv,c,f,d,qw,nE,wS,wQ];(try rfl);(try (split<;>simp[c,f,d,qw, *]))
  .simp[th,binOp,e,c]
section
variable {FT:Nat->Option (Fun×Nat)} {O:Nat->List D->Option D}
variable {P:Program}
end
end
variable {P:Program} {N:Nat}
def Yp(r:Option (D×List Ent)) (f:D->List Ent->Prop):Prop:=
 match r with
 |some p=>f p.1 p.2
 |none=>False
@[congr] theorem K6{r a:Option (D×List Ent)} {f:D->List Ent->Prop} (h:r=a):Yp r f=Yp a f:=by rw[h]
theorem cR(d:D) (m:List Ent) (f:D->List Ent->Prop):Yp (some (d,m)) f=f d m:=Naa rfl rfl
theorem Ol(r:Option (D×List Ent)) (f:D->List Ent->Prop):Yp r f↔∃d m',r=some (d,m')/\f d m':=by
 cases r with
 |none=>simp[Yp]
 |some p=>
  obtain⟨d,m⟩:=p;simp only[Yp];exact⟨λh=>⟨d,m,rfl,h⟩,λ⟨_,_,a,h2⟩=>by injection a with a;injection a with a b;rw[a,b];exact h2⟩
def ef(P:Program) (k:Nat) (ds:List D) (m:List Ent) (f:D->List Ent->Prop):Prop:=CallT P k ds m f
@[congr] theorem T4{k b:Nat} {ds a:List D} {m m':List Ent} {f:D->List Ent->Prop} (c:k=b) (h2:ds=a) (d:m=m'):ef P k ds m f=ef P b a m' f:=by rw[c,h2,d]
theorem Iv{k:Nat}{ds:List D}{m:List Ent}{R f:D->List Ent->Prop}(h:CallT P k ds m R) (a:∀d m',R d m'->f d m'):ef P k ds m f:=h.mono a
theorem Vb{k:Nat}{ds:List D}{m m1:List Ent}{d1:D}{f:D->List Ent->Prop}(h:CallT P k ds m λd m'=>d=d1/\m'=m1) (hf:f d1 m1):ef P k ds m f:=
 h.mono λd m' ⟨a,h2⟩=>by rw[a,h2];exact hf
theorem va.cons{d e:D}{l r:List D}(a:Sub d e) (h2:va l r):va (d::l) (e::r):=by
 simp only[va];exact⟨e,r,rfl,a,h2⟩
theorem Sub.lb(d:D):Sub d .dead:=by cases d<;>simp[Sub]
variable {P:Program} {N:Nat}
def gP(p Y N:Prop):Prop:=(p->Y)/\(¬p->N)
theorem gP_T{Y N:Prop}:gP True Y N=Y:=by simp[gP]
theorem gP_F{Y N:Prop}:gP False Y N=N:=by simp[gP]
@[congr] theorem gP_congr{p a Y N:Prop} (h:p=a):gP p Y N=gP a Y N:=by rw[h]
theorem gP.mk{p Y N:Prop}(a:p->Y) (h2:¬p->N):gP p Y N:=⟨a,h2⟩
def Cx(s:St) (g:Option (Tmp×Bool)) (b:Bool):St:=
 match g with
 |none=>s
 |some (t,_)=>
  match s.t.getD t .dead with
  |.v (.bool _)=>{ s with t:=s.t.set t (.v (.bool b)) }
  |_=>s
theorem WB{l:List D}{t:Nat}{d:D}(h:l.getD t .dead=d) (hd:d≠.dead):l.set t d=l:=by
 apply xac
 grind
theorem GQ{s:St}{g:Option (Tmp×Bool)}{c b:Bool}(hg:gate s g=some (some (c,b))) (e:c=b):Cx s g b=s:=by
 unfold Cx
 cases g with
 |none=>rfl
 |some p=>
  obtain⟨t,b'⟩:=p;simp only;split
  all_goals simp_all[gate,WB]
theorem gW{s:St}{g:Option (Tmp×Bool)}{c b:Bool}(a:gate s g=some (some (c,b))) (e:c≠b):Cx s g (!b)=s:=by
 unfold Cx
 cases g with
 |none=>rfl
 |some p=>
  obtain⟨t,d⟩:=p;simp only;split
  .rename_i x hx;simp only[gate,hx]at a;injection a with a;injection a with a;injection a with f h2;subst f h2;have:x = !d:=by cases x<;>cases d<;>simp_all
   simp_all[WB]
  .rfl
def KO(R:St->Prop) (s:St) (dst:Option Tmp) (d:D) (m':List Ent):Prop:=R ({ s with m:=m' }.put dst d)
def kh(P:Program):List RI->(St->Prop)->St->Prop
 |[],K,s=>K s
 |.op dst g i::l,K,s=>
  match gate s g with
  |none=>False
  |some none=>Yp (fa s i) (KO (kh P l K) s dst)
  |some (some (c,b))=>gP (c=b) (Yp (fa (Cx s g b) i) (KO (kh P l K) (Cx s g b) dst)) (kh P l K ((Cx s g (!b)).put dst (.v undef)))
 |.call dst g f args::l,K,s=>
  match s.ec f with
  |.fn k first caps=>
   match gate s g with
   |none=>False
   |some none=>ef P k (first++args.map s.ev++caps) s.m (KO (kh P l K) s dst)
   |some (some (c,b))=>gP (c=b) (ef P k (first++args.map (Cx s g b).ev++caps) s.m (KO (kh P l K) (Cx s g b) dst)) (kh P l K ((Cx s g (!b)).put dst (.v undef)))
  |_=>False
theorem Ys:∀{l:List RI}{K:St->Prop}{s:St},kh P l K s->Lj P l K s
 |[],K,s,h=>h
 |.op dst g i::l,K,s,h=>by
  simp only[kh]at h;simp only[Lj];split at h
  .simp_all
  .rename_i a;rw[a];obtain⟨d,m',j,h2⟩:=(Ol _ _).1 h;exact⟨d,m',j,Ys h2⟩
  .rename_i c b a;rw[a];refine⟨λe=>?_,λe=>?_⟩
   .have h:=h.1 e;rw[GQ a e]at h;obtain⟨d,m',j,h2⟩:=(Ol _ _).1 h;exact⟨d,m',j,Ys h2⟩
   .have h:=h.2 e;rw[gW a e]at h;exact Ys h
 |.call dst g f args::l,K,s,h=>by
  simp only[kh]at h;simp only[Lj];split at h
  .rename_i k first caps hf
   rw[hf];split at h
   .simp_all
   .rename_i a;rw[a];exact h.mono λ_ _ h2=>Ys h2
   .rename_i c b a;rw[a];refine⟨λe=>?_,λe=>?_⟩
    .have h:=h.1 e;rw[GQ a e]at h;exact h.mono λ_ _ h2=>Ys h2
    .have h:=h.2 e;rw[gW a e]at h;exact Ys h
  simp_all
def sw(P:Program):Nat->List RI->(St->Prop)->St->Prop
 |0,l,K,s=>kh P l K s
 |_+1,[],_,_=>False
 |q+1,.op dst g i::l,K,s=>
  match gate s g with
  |none=>False
  |some none=>Yp (fa s i) (KO (sw P q l K) s dst)
  |some (some (c,b))=>gP (c=b) (Yp (fa s i) (KO (sw P q l K) s dst)) (sw P q l K (s.put dst (.v undef)))
 |q+1,.call dst g f args::l,K,s=>
  match s.cv f with
  |.fn k first caps=>
   match gate s g with
   |none=>False
   |some none=>∃d,(∀m,CallT P k (first++args.map s.ev++caps) m λd' m'=>d'=d/\m'=m)/\sw P q l K (s.put dst d)
   |some (some (c,b))=>(c=b->∃d,(∀m,CallT P k (first++args.map s.ev++caps) m λd' m'=>d'=d/\m'=m)/\sw P q l K (s.put dst d))/\(c≠b->sw P q l K (s.put dst (.v undef)))
  |_=>False
theorem TF:∀{q:Nat}{l:List RI}{K:St->Prop}{s:St},sw P q l K s->HL P q l K s
 |0,l,K,s,h=>by simp only[sw]at h;simp only[HL];exact Ys h
 |_+1,[],K,s,h=>by simp only[sw]at h
 |q+1,.op dst g i::l,K,s,h=>by
  simp only[sw]at h;simp only[HL];split at h
  .simp_all
  .rename_i j;rw[j];obtain⟨d,m',a,h2⟩:=(Ol _ _).1 h;exact⟨d,m',a,TF h2⟩
  .rename_i c b j;rw[j];refine⟨λe=>?_,λe=>TF (h.2 e)⟩;obtain⟨d,m',a,h2⟩:=(Ol _ _).1 (h.1 e);exact⟨d,m',a,TF h2⟩
 |q+1,.call dst g f args::l,K,s,h=>by
  simp only[sw]at h;simp only[HL];split at h
  .rename_i k first caps hf
   rw[hf];split at h
   .simp_all
   .rename_i j;rw[j];obtain⟨d,a,h2⟩:=h;exact⟨d,a,TF h2⟩
   .rename_i c b j;rw[j];refine⟨λe=>?_,λe=>TF (h.2 e)⟩;obtain⟨d,a,h2⟩:=h.1 e;exact⟨d,a,TF h2⟩
  simp_all
def C.iF:C->Bool
 |.loop _=>true
 |.any ..=>true
 |.seq a b=>a.iF || b.iF
 |.cond _ a b=>a.iF || b.iF
 |.block _ a=>a.iF
 |_=>false
def C.Bl:C->Bool
 |.loop _=>true
 |_=>false
theorem nR{f:FuncId}{ds a:List D}{m:List Ent}{R:D->List Ent->Prop}(b:va ds a) (h:CallT P f a m R):CallT P f ds m R:=
 ⟨h.1,λG w vs hv hi=>h.2 G w vs (b.rel hv) hi⟩
def KS(P:Program) (N:Nat) (b:C) (K:Exit->St->Prop) (e:Exit) (s':St):Prop:=match e with|.normal=>Tm.T P N b K s'|e=>K e s'
theorem YQ{b:C}{K:Exit->St->Prop}{s:St}:KS P N b K .normal s=Tm.T P N b K s:=Naa rfl rfl
theorem mY{b:C}{K:Exit->St->Prop}{s:St}{i:Nat}:KS P N b K (.exit i) s=K (.exit i) s:=Naa rfl rfl
theorem u6{b:C}{K:Exit->St->Prop}{s:St}:KS P N b K .ret s=K .ret s:=Naa rfl rfl
def KZ(R:St->Prop) (K:Exit->St->Prop) (e:Exit) (s':St):Prop:=match e with|.normal=>R s'|e=>K e s'
def KB(id:Nat) (K:Exit->St->Prop) (e:Exit) (s':St):Prop:=match e with|.exit a=>if a=id then K .normal s' else K (.exit a) s'|e=>K e s'
theorem XQ{id:Nat}{K:Exit->St->Prop}{s:St}:KB id K .normal s=K .normal s:=Naa rfl rfl
theorem iY{id:Nat}{K:Exit->St->Prop}{s:St}{i:Nat}:KB id K (.exit i) s=if i=id then K .normal s else K (.exit i) s:=Naa rfl rfl
theorem l6{id:Nat}{K:Exit->St->Prop}{s:St}:KB id K .ret s=K .ret s:=Naa rfl rfl
@[congr] theorem T_congr{c:C} {K:Exit->St->Prop} {s s':St} (h:s=s'):Tm.T P N c K s=Tm.T P N c K s':=by rw[h]
def Z(P:Program) (N:Nat):C->(Exit->St->Prop)->St->Prop
 |.skip,K,s=>K .normal s
 |.jL l,K,s=>kh P l (K .normal) s
 |.draw q l,K,s=>sw P q l (K .normal) s
 |.any cuts q bs l,K,s=>T P N (.any cuts q bs l) K s
 |.seq a b,K,s=>
  match a.iF with
  |true=>Z P N a (KS P N b K) s
  |false=>Z P N a (KZ (Z P N b K) K) s
 |.cond c a b,K,s=>
  match s.ev c with
  |.v (.bool t)=>gP (t=true) (Z P N a K s) (Z P N b K s)
  |_=>False
 |.block id a,K,s=>
  match a.Bl with
  |true=>T P N (.block id a) K s
  |false=>Z P N a (KB id K) s
 |.loop a,K,s=>T P N (.loop a) K s
 |.exit id,K,s=>K (.exit id) s
 |.ret,K,s=>K .ret s
 |.stuck,_,_=>False
theorem Z.T(hm:P.follows .mixedOrders=true):∀{c:C}{K:Exit->St->Prop}{s:St},Z P N c K s->T P N c K s
 |.skip,K,s,h=>T.skip h
 |.jL l,K,s,h=>T.jL (Ys h)
 |.draw q l,K,s,h=>T.draw hm (TF h)
 |.any cuts q bs l,K,s,h=>h
 |.seq a b,K,s,h=>by
  simp only[Z]at h;split at h
  .refine T.seq ((Z.T hm h).mono ?_);intro e s' d;cases e<;>exact d
  .refine T.seq ((Z.T hm h).mono ?_);intro e s' d
   cases e with
   |normal=>exact Z.T hm d
   |_=>exact d
 |.cond c a b,K,s,h=>by
  simp only[Z]at h;split at h
  .rename_i t ht;exact T.cond ht (λe=>Z.T hm (h.1 e)) (λe=>Z.T hm (h.2 (by simp[e])))
  .exact h.elim
 |.block id a,K,s,h=>by
  simp only[Z]at h;split at h
  .exact h
  .exact T.block ((Z.T hm h).mono λe s' d=>by cases e<;>exact d)
 |.loop a,K,s,h=>h
 |.exit id,K,s,h=>T.exit h
 |.ret,K,s,h=>T.ret h
 |.stuck,_,_,h=>by simp only[Z]at h
section
variable {l:List RI} {K:St->Prop} {s:St} {dst:Option Tmp} {i:I} {q:Nat} {f:Cal} {args:List Operand} {g:Tmp×Bool}
theorem CT:kh P [] K s=K s:=Naa rfl rfl
theorem MP:kh P (.op dst none i::l) K s=Yp (fa s i) (KO (kh P l K) s dst):=Naa rfl rfl
theorem ET:kh P (.op dst (some g) i::l) K s =
 match gate s (some g)with
 |none=>False
 |some none=>Yp (fa s i) (KO (kh P l K) s dst)
 |some (some (c,b))=>gP (c=b) (Yp (fa (Cx s (some g) b) i) (KO (kh P l K) (Cx s (some g) b) dst)) (kh P l K ((Cx s (some g) (!b)).put dst (.v undef))):=Naa rfl rfl
theorem aR{k:FuncId}{first caps:List D}(hf:s.ec f=.fn k first caps):kh P (.call dst none f args::l) K s=ef P k (first++args.map s.ev++caps) s.m (KO (kh P l K) s dst):=by
 simp only[kh,hf,gate]
theorem xF{k:FuncId}:kh P (.call dst none (.func k) args::l) K s=ef P k (args.map s.ev) s.m (KO (kh P l K) s dst):=by
 rw[aR (k:=k) (first:=[]) (caps:=[]) rfl,Uab,vab]
theorem OL{k:FuncId}:kh P (.call dst (some g) (.func k) args::l) K s =
 match gate s (some g)with
 |none=>False
 |some none=>ef P k (args.map s.ev) s.m (KO (kh P l K) s dst)
 |some (some (c,b))=>gP (c=b) (ef P k (args.map (Cx s (some g) b).ev) s.m (KO (kh P l K) (Cx s (some g) b) dst)) (kh P l K ((Cx s (some g) (!b)).put dst (.v undef))):=by
 simp only[kh,St.ec,St.ev,Uab,vab]
theorem sT:sw P 0 l K s=kh P l K s:=by simp only[sw]
theorem rT:sw P (q+1) (.op dst none i::l) K s=Yp (fa s i) (KO (sw P q l K) s dst):=Naa rfl rfl
theorem fY:sw P (q+1) (.op dst (some g) i::l) K s =
 match gate s (some g)with
 |none=>False
 |some none=>Yp (fa s i) (KO (sw P q l K) s dst)
 |some (some (c,b))=>gP (c=b) (Yp (fa s i) (KO (sw P q l K) s dst)) (sw P q l K (s.put dst (.v undef))):=Naa rfl rfl
def hJ(P:Program) (k:FuncId) (ds:List D) (R:St->Prop) (s:St) (dst:Option Tmp):Prop:=∃d,(∀m,CallT P k ds m λd' m'=>d'=d/\m'=m)/\R (s.put dst d)
theorem YI{k:FuncId}:sw P (q+1) (.call dst none (.func k) args::l) K s=hJ P k (args.map s.ev) (sw P q l K) s dst:=by
 simp only[sw,St.cv,St.ev,Uab,vab,hJ,gate]
theorem WN{k:FuncId}:sw P (q+1) (.call dst (some g) (.func k) args::l) K s =
 match gate s (some g)with
 |none=>False
 |some none=>hJ P k (args.map s.ev) (sw P q l K) s dst
 |some (some (c,b))=>gP (c=b) (hJ P k (args.map s.ev) (sw P q l K) s dst) (sw P q l K (s.put dst (.v undef))):=by
 simp only[sw,St.cv,St.ev,Uab,vab,hJ,gP]
variable {K':Exit->St->Prop} {a b:C} {c:Operand} {id:Nat} {cuts:List Nat} {bs:List (List Nat)}
theorem Wm:Z P N .skip K' s=K' .normal s:=Naa rfl rfl
theorem Nr:Z P N (.jL l) K' s=kh P l (K' .normal) s:=Naa rfl rfl
theorem Rm:Z P N (.draw q l) K' s=sw P q l (K' .normal) s:=Naa rfl rfl
theorem Mr:Z P N (.any cuts q bs l) K' s=Tm.T P N (.any cuts q bs l) K' s:=Naa rfl rfl
def KZb(P:Program) (N:Nat) (b:C) (K':Exit->St->Prop):Exit->St->Prop:=KZ (Z P N b K') K'
theorem Sc:KZb P N b K' .normal s=Z P N b K' s:=Naa rfl rfl
theorem Nf:KZb P N b K' (.exit id) s=K' (.exit id) s:=Naa rfl rfl
theorem Ki:KZb P N b K' .ret s=K' .ret s:=Naa rfl rfl
theorem Qr:Z P N (.seq a b) K' s=match a.iF with
 |true=>Z P N a (KS P N b K') s
 |false=>Z P N a (KZb P N b K') s:=Naa rfl rfl
theorem Qm:Z P N (.cond c a b) K' s=match s.ev c with
 |.v (.bool t)=>gP (t=true) (Z P N a K' s) (Z P N b K' s)
 |_=>False:=Naa rfl rfl
theorem Li:Z P N (.block id a) K' s=match a.Bl with
 |true=>Tm.T P N (.block id a) K' s
 |false=>Z P N a (KB id K') s:=Naa rfl rfl
theorem Vm:Z P N (.loop a) K' s=Tm.T P N (.loop a) K' s:=Naa rfl rfl
theorem Um:Z P N (.exit id) K' s=K' (.exit id) s:=Naa rfl rfl
theorem Pr:Z P N .ret K' s=K' .ret s:=Naa rfl rfl
end
def At(s' S:St):Prop:=va s'.t S.t/\∃g,s'.m=S.m++g
theorem At.mk(t t':List D) (m g:List Ent) (h:va t t'):At ⟨t,m++g⟩ ⟨t',m⟩:=⟨h,g,rfl⟩
theorem At.same(t t':List D) (m:List Ent) (h:va t t'):At ⟨t,m⟩ ⟨t',m⟩:=⟨h,[],by simp⟩
def Fit(N:Nat) (s:St):Prop:=N<=s.m.length/\belows s.m.length s.t=true/\s.m.all (Ent.below s.m.length)=true
theorem Sub.inv{a b:D}(h:Sub a b):b=.dead\/(∃S,a=.v (.slice none 0 0)/\b=.sl S [])\/(∃l r,a=.agg l/\b=.agg r/\va l r)\/(∃l r,a=.tup l/\b=.tup r/\va l r)\/(∃S l r,a=.sl S l/\b=.sl S r/\va l r)\/a=b:=by
 cases b with
 |dead=>simp
 |v x=>cases a<;>simp_all[Sub]
 |agg r=>cases a<;>simp_all[Sub]
 |tup r=>cases a<;>simp_all[Sub]
 |sl S r=>
  cases a with
  |sl S' l=>simp only[Sub]at h;grind
  |_=>simp_all[Sub]
 |pt x=>cases a<;>simp_all[Sub]
 |ref _ _ _ _=>cases a<;>simp_all[Sub]
 |own _ _=>cases a<;>simp_all[Sub]
 |view _ _ _ _=>cases a<;>simp_all[Sub]
 |fn _ _ _=>cases a<;>simp_all[Sub]
 |mp _=>cases a<;>simp_all[Sub]
 |ifc _ _=>cases a<;>simp_all[Sub]
mutual
theorem Sub.trans:∀{a b c:D},Sub a b->Sub b c->Sub a c
 |a,.dead,c,d,h2=>by
  rcases h2.inv with rfl|⟨_,h,_⟩|⟨_,_,h,_⟩|⟨_,_,h,_⟩|⟨_,_,_,h,_⟩|rfl
  .exact Sub.lb _
  .cases h
  .cases h
  .cases h
  .cases h
  .exact Sub.lb _
 |a,.agg r,c,d,h2=>by
  rcases d.inv with h|⟨_,_,h⟩|⟨l,j,rfl,h,g⟩|⟨_,_,_,h,_⟩|⟨_,_,_,_,h,_⟩|rfl
  .cases h
  .cases h
  .injection h with h;subst h;rcases h2.inv with rfl|⟨_,h,_⟩|⟨j,q,h,rfl,e⟩|⟨_,_,h,_⟩|⟨_,_,_,h,_⟩|rfl
   .exact Sub.lb _
   .cases h
   .injection h with h;subst h;simp only[Sub];exact va.trans g e
   .cases h
   .cases h
   .exact d
  .cases h
  .cases h
  .exact h2
 |a,.tup r,c,d,h2=>by
  rcases d.inv with h|⟨_,_,h⟩|⟨_,_,_,h,_⟩|⟨l,j,rfl,h,g⟩|⟨_,_,_,_,h,_⟩|rfl
  .cases h
  .cases h
  .cases h
  .injection h with h;subst h;rcases h2.inv with rfl|⟨_,h,_⟩|⟨_,_,h,_⟩|⟨j,q,h,rfl,e⟩|⟨_,_,_,h,_⟩|rfl
   .exact Sub.lb _
   .cases h
   .cases h
   .injection h with h;subst h;simp only[Sub];exact va.trans g e
   .cases h
   .exact d
  .cases h
  .exact h2
 |a,.sl S r,c,d,h2=>by
  rcases h2.inv with rfl|⟨_,h,_⟩|⟨_,_,h,_⟩|⟨_,_,h,_⟩|⟨S',l',q,h,rfl,e⟩|rfl
  .exact Sub.lb _
  .cases h
  .cases h
  .cases h
  .injection h with i f;subst i;subst f;rcases d.inv with h|⟨_,rfl,h⟩|⟨_,_,_,h,_⟩|⟨_,_,_,h,_⟩|⟨_,l,_,rfl,h,g⟩|rfl
   .cases h
   .injection h with i f;subst f;simp only[va]at e;subst e;simp[Sub]
   .cases h
   .cases h
   .injection h with i f;subst i;subst f;simp only[Sub,true_and];exact va.trans g e
   .exact h2
  .exact d
 |a,.v x,c,d,h2=>by
  rcases d.inv with h|⟨_,_,h⟩|⟨_,_,_,h,_⟩|⟨_,_,_,h,_⟩|⟨_,_,_,_,h,_⟩|rfl<;>first|cases h|exact h2
 |a,.pt x,c,d,h2=>by
  rcases d.inv with h|⟨_,_,h⟩|⟨_,_,_,h,_⟩|⟨_,_,_,h,_⟩|⟨_,_,_,_,h,_⟩|rfl<;>first|cases h|exact h2
 |a,.ref _ _ _ _,c,d,h2=>by
  rcases d.inv with h|⟨_,_,h⟩|⟨_,_,_,h,_⟩|⟨_,_,_,h,_⟩|⟨_,_,_,_,h,_⟩|rfl<;>first|cases h|exact h2
 |a,.own _ _,c,d,h2=>by
  rcases d.inv with h|⟨_,_,h⟩|⟨_,_,_,h,_⟩|⟨_,_,_,h,_⟩|⟨_,_,_,_,h,_⟩|rfl<;>first|cases h|exact h2
 |a,.view _ _ _ _,c,d,h2=>by
  rcases d.inv with h|⟨_,_,h⟩|⟨_,_,_,h,_⟩|⟨_,_,_,h,_⟩|⟨_,_,_,_,h,_⟩|rfl<;>first|cases h|exact h2
 |a,.fn _ _ _,c,d,h2=>by
  rcases d.inv with h|⟨_,_,h⟩|⟨_,_,_,h,_⟩|⟨_,_,_,h,_⟩|⟨_,_,_,_,h,_⟩|rfl<;>first|cases h|exact h2
 |a,.mp _,c,d,h2=>by
  rcases d.inv with h|⟨_,_,h⟩|⟨_,_,_,h,_⟩|⟨_,_,_,h,_⟩|⟨_,_,_,_,h,_⟩|rfl<;>first|cases h|exact h2
 |a,.ifc _ _,c,d,h2=>by
  rcases d.inv with h|⟨_,_,h⟩|⟨_,_,_,h,_⟩|⟨_,_,_,h,_⟩|⟨_,_,_,_,h,_⟩|rfl<;>first|cases h|exact h2
theorem va.trans:∀{a b c:List D},va a b->va b c->va a c
 |[],b,c,f,h2=>by simp only[va]at f;subst f;exact h2
 |d::a,b,c,f,h2=>by
  simp only[va]at f;obtain⟨e,r,rfl,g,h⟩:=f;simp only[va]at h2;obtain⟨e',r',rfl,k3,k4⟩:=h2;exact va.cons (Sub.trans g k3) (va.trans h k4)
end
theorem At.trans{a b c:St}(d:At a b) (h2:At b c):At a c:=by
 obtain⟨d,g,k1⟩:=d;obtain⟨h2,e,k2⟩:=h2;exact⟨d.trans h2,e++g,by simp_all⟩
def QL(N:Nat) (K:Exit->St->Prop):Prop:=∀s s',At s' s->Fit N s->K .normal s->K .normal s'
theorem YL{s S:St}(P:At s S) (hb:Fit N S):∀(G:Gh) (w:World) (a:Act),N<=G.n->Rel G w a s->∃G',Rel G' w a S/\StepN N G w s.m G' w S.m:=by
 intro G w a hN' d;obtain⟨L,g,h2⟩:=P;obtain⟨hN,ht,E⟩:=hb;have x:S.m=s.m.take S.m.length:=by simp_all
 have hk:S.m.length<=s.m.length:=by grind
 have hm:(s.m.take S.m.length).all (Ent.below S.m.length)=true:=by grind
 have hr:Rel G w a ⟨S.t,s.m⟩:=⟨L.rel d.t,d.inv,d.defers⟩;generalize u:S.m.length=k at *;obtain⟨St,Sm⟩:=S;simp only at x ht u hr;subst x;clear d h2 u E;have hi:=hr.inv;have c:∀(i:Nat) e,(s.m.take k)[i]?=some e->i<k/\s.m[i]?=some e:=by
  grind
 have r:Inv (G.trim k) w (s.m.take k):=by
  refine⟨by grind[Gh.trim],hi.F,λi e he=>?_,λi j e e' he C hl D b hb o=>hi.apart i j e e' (c i e he).2 (c j e' C).2 hl D b hb o,hi.gl.bare λ_ h=>h⟩;have hbe:e.below k=true:=Nab.1 hm e (List.mem_of_getElem? he);have f:=hi.ent i e (c i e he).2
  cases e with
  |live S Pa l=>
   obtain⟨y,z,A,B,p⟩:=f;refine⟨y,z,A,B,?_⟩;rcases p with p|⟨I,cs,T,o,O,q,H,v⟩
   .exact .inl p
   .exact .inr ⟨I,cs,T,o,O,q,H,v.trim (by grind[Ent.below])⟩
  |mp es=>
   obtain⟨y,b,K,J,z,A,B,p⟩:=f;exact⟨y,b,K,J,z,A,B,p.trim (by grind[Ent.below])⟩
  |gone=>trivial
 refine⟨G.trim k,⟨hr.t.trim ht,r,hr.defers⟩,⟨λ_ h=>h,λ_ _=>rfl,hN,λi hi'=>.inl ⟨rfl,rfl,rfl,rfl,rfl⟩,rfl,rfl,rfl,dab _,λ_ _ _=>rfl,λ_ _ h=>.inl h,?_⟩⟩;rintro b hb ⟨i,e,he,hl,M⟩;exact⟨i,e,(c i e he).2,hl,M⟩
def GL(N:Nat) (K:Exit->St->Prop) (e:Exit) (s:St):Prop:=∀(G:Gh) (w:World) (a:Act),N<=G.n->Rel G w a s->∃s' G',K e s'/\Rel G' w a s'/\StepN N G w s.m G' w s'.m
theorem GL.of{K:Exit->St->Prop}{e:Exit}{s:St}(h:K e s):GL N K e s:=λG w a hN hr=>⟨s,G,h,hr,StepN.refl _ _ _ hN⟩
theorem T.iU{c:C}{K:Exit->St->Prop}{s:St}(h:Tm.T P N c (GL N K) s):Tm.T P N c K s:=by
 intro code hc G w a hN hr;refine Code.wp_mono ?_ (h code hc G w a hN hr);rintro e a' w' ⟨s',G',i,f,b⟩;obtain⟨g,d,j,k,k3⟩:=i G' w' a' b.n f;exact⟨g,d,j,k,b.trans k3⟩
theorem EP{K:Exit->St->Prop}:QL N (GL N K):=by
 intro s s' e h2 f G w a hN hr;obtain⟨G',g,d⟩:=YL e h2 G w a hN hr;obtain⟨c,b,m1,m2,h⟩:=f G' w a d.n g;exact⟨c,b,m1,m2,d.trans h⟩
theorem T.at{c:C}{K:Exit->St->Prop}{s S:St}(e:At s S) (hb:Fit N S) (h:Tm.T P N c K S):Tm.T P N c K s:=by
 obtain⟨d,g,h2⟩:=e;obtain⟨a,b,b3⟩:=hb;refine T.sub S.t d ?_;refine T.trim S.m.length a (by grind) b (by simp_all) ?_
 simp_all
theorem T.Ez{a b:C}{K:Exit->St->Prop}{s:St}(h:Tm.T P N a (KS P N b K) s):Tm.T P N (.seq a b) K s:=T.seq (h.mono λe s' c=>by cases e<;>exact c)
theorem Jy{b:C}{K:Exit->St->Prop}:QL N (KS P N b K):=λs s' a h2 c=>T.at a h2 c
theorem DP{id:Nat}{K:Exit->St->Prop}(h:QL N K):QL N (KB id K):=h
def KM{X:Type}(id:Nat) (K:Exit->St->Prop) (S:X->St) (ir fin:X->Prop) (μ:X->Nat) (y:X) (e:Exit) (s':St):Prop:=
 match e with|.normal=>∃z,ir z/\μ z<μ y/\At s' (S z)|.exit j=>if j=id then(∃z,fin z/\At s' (S z))else K (.exit j) s'|e=>K e s'
section
variable {X:Type} {id:Nat} {K:Exit->St->Prop} {S:X->St} {ir fin:X->Prop} {μ:X->Nat} {y:X} {s':St}
theorem Tn:KM id K S ir fin μ y .normal s' = ∃z,ir z/\μ z<μ y/\At s' (S z):=Naa rfl rfl
theorem Wp{j:Nat}:KM id K S ir fin μ y (.exit j) s'=if j=id then(∃z,fin z/\At s' (S z))else K (.exit j) s':=Naa rfl rfl
end
def KI(id n:Nat) (K:Exit->St->Prop) (S:Nat->St) (i:Nat) (e:Exit) (s':St):Prop:=
 match e with|.normal=>i<n/\At s' (S (i+1))|.exit j=>if j=id then i=n/\At s' (S n)else K (.exit j) s'|e=>K e s'
section
variable {id n i:Nat} {K:Exit->St->Prop} {S:Nat->St} {s':St}
theorem It:KI id n K S i .normal s'=(i<n/\At s' (S (i+1))):=Naa rfl rfl
theorem WE{j:Nat}:KI id n K S i (.exit j) s'=if j=id then i=n/\At s' (S n)else K (.exit j) s':=Naa rfl rfl
end
theorem FP{X:Type}{id:Nat}{K:Exit->St->Prop}{S:X->St}{ir fin:X->Prop}{μ:X->Nat}{y:X}:QL N (KM id K S ir fin μ y):=by
 rintro s s' a - ⟨z,b,c,k3⟩;exact⟨z,b,c,a.trans k3⟩
theorem qX{id n i:Nat}{K:Exit->St->Prop}{S:Nat->St}:QL N (KI id n K S i):=by
 rintro s s' a - ⟨b,c⟩;exact⟨b,a.trans c⟩
theorem T.aM{id:Nat}{x:C}{K:Exit->St->Prop}{s:St}{X:Type}(S:X->St) (ir fin:X->Prop) (μ:X->Nat) (x₀:X) (d:ir x₀) (i:At s (S x₀))
 (hb:∀y,ir y\/fin y->Fit N (S y))
 (round:∀y,ir y->Tm.T P N x (KM id K S ir fin μ y) (S y))
 (a:(∃z,fin z)->QL N K) (rest:∀z,fin z->K .normal (S z)):Tm.T P N (.block id (.loop x)) K s:=by
 refine T.at i (hb x₀ (.inl d)) ?_;refine T.block (T.loopS S ir μ x₀ d (va.qc _) rfl (λy b=>hb y (.inl b)) λy b=>(round y b).mono ?_);intro e s' h
 cases e with
 |normal=>obtain⟨z,f,h2,h3,h4⟩:=h;grind
 |exit j=>
  simp only[Wp]at h⊢;split at h
  .rename_i g;rw[if_pos g];obtain⟨z,c,f⟩:=h;exact a ⟨z,c⟩ (S z) s' f (hb z (.inr c)) (rest z c)
  simp_all
 |_=>exact h
theorem T.Z6{id:Nat}{x:C}{K:Exit->St->Prop}{s:St}(n:Nat) (S:Nat->St) (b:At s (S 0)) (hb:∀i,i<=n->Fit N (S i))
 (round:∀i,i<=n->Tm.T P N x (KI id n K S i) (S i))
 (a:QL N K) (rest:K .normal (S n)):Tm.T P N (.block id (.loop x)) K s:=by
 refine T.aM (X:=Nat) S (λi=>i<=n) (λi=>i=n) (λi=>n-i) 0 (Dab _) b (λy hy=>hb y (by omega)) (λi hi=>(round i hi).mono ?_) (λ_=>a) (λz hz=>by simp_all);intro e s' h
 cases e with
 |normal=>
  simp only[It]at h;exact⟨i+1,h.1,by grind,h.2⟩
 |exit j=>
  simp only[WE,Wp]at h⊢
  grind
 |_=>exact h
theorem LX(d:D):Bo [d]=d:=Naa rfl rfl
theorem KX:Bo []=.tup []:=Naa rfl rfl
theorem MX(d e:D) (l:List D):Bo (d::e::l)=.tup (d::e::l):=Naa rfl rfl
theorem MT{c:Prop} [Decidable c] (p:D×List Ent) (f:D->List Ent->Prop):Yp (if c then some p else none) f=(c/\f p.1 p.2):=by
 by_cases h:c<;>simp[h,Yp]
theorem HZ{α β:Type}{c:Prop} [Decidable c] (a:α) (g:α->β):(if c then some a else none:Option α).map g=if c then some (g a)else none:=by
 simp
theorem Bu{n:Int}(h:-9223372036854775808<=n/\n<=9223372036854775807):ca .i64 n=n:=by
 grind[qw,IntKind.wrap_i64]
theorem r5(a b:Nat):Int.fdiv (a:Int) (b:Int)=((a / b:Nat):Int):=(Int.fdiv_eq_ediv_of_nonneg _ (by omega)).trans (by omega)
section
variable {k:Nat} {m:List Ent} {id Pa S lo n:Nat} {l:List D}
end
theorem H4{n:Int}(h:0<=n/\n<18446744073709551616):ca .u64 n=n:=by grind[ca]
theorem Zc{k:Nat}(h:k<18446744073709551616):ca .u64 (k:Int)=(k:Int):=H4 (by omega)
theorem YT:((0:Nat):Int)=0:=Naa rfl rfl
theorem Dq(b:Bool):yg (Op.unary .not (.bool b))=some (.bool (!b)):=Naa rfl rfl
theorem CJ(a b:Nat):((a:Int)<(b:Int))↔a<b:=by omega
theorem uY{k:Nat}{a b:List D}(ha:belows k a=true) (hb:belows k b=true):belows k (a++b)=true:=by
 induction a with
 |nil=>grind
 |cons d a ih=>
  simp_all[belows]
theorem oV{a b:List D}(ha:ia a=true) (hb:ia b=true):ia (a++b)=true:=by
 grind[cj]
theorem RZ(k:IntKind) (n:Int):yg (Op.unary .neg (.int k n))=some (.int k (ca k (-n))):=by
 show some (Value.int k (k.wrap (0-n)))=_
 grind[qw]
theorem IZ(k:IntKind) (a b:Int):yg (Builtin.max_ #[] 0 [Value.int k a,Value.int k b].toArray)=some (.int k (max a b)):=by
 simp only[Builtin.max_,yg,Xae,bind_pure,Builtin.max2];by_cases h:a<b
 .rw[if_pos h,Int.max_eq_right (by omega)];rfl
 .rw[if_neg h,Int.max_eq_left (by omega)];rfl
theorem MZ(k:IntKind) (a b:Int):yg (Builtin.min_ #[] 0 [Value.int k a,Value.int k b].toArray)=some (.int k (min a b)):=by
 simp only[Builtin.min_,yg,Xae,bind_pure,Builtin.min2];by_cases h:b<a
 .rw[if_pos h,Int.min_eq_right (by omega)];rfl
 .rw[if_neg h,Int.min_eq_left (by omega)];rfl
section
variable {α:Type} {l b c:List α} {a a' x:α}
end
open Go.RowKit (Below)
open Go.WideShapes
inductive Sh where
 |bool
 |int (k:IntKind)
 |str
 |sl (S:Nat) (A:Bool) (e:Sh)
 |cat (l:List Sh)
def aggT(P:Program) (t:TypeId):Bool:=
 match P.underlying t with
 |some (.struct _)=>true
 |some (.array _ _)=>true
 |_=>false
def Ks(f:TypeId->Option Sh) (P:Program):List Field->Nat->Option (List Sh×Nat)
 |[],off=>some ([],off)
 |g::gs,off=>
  if g.offset=off then
   match f g.type,Ks f P gs (off+P.cellsOf g.type)with
   |some s,some (l,e)=>some (s::l,e)
   |_,_=>none
  else none
def shOf(P:Program):Nat->TypeId->Option Sh
 |0,_=>none
 |n+1,t=>
  match P.underlying t with
  |some .bool=>some .bool
  |some (.int k)=>some (.int k)
  |some .string=>some .str
  |some (.slice e)=>if 0<P.cellsOf e/\0<P.bytesOf e then(shOf P n e).map λs=>.sl (P.cellsOf e) (aggT P e) s else none
  |some (.struct fs)=>
   match Ks (shOf P n) P fs.toList 0 with
   |some (l,e)=>if e=P.cellsOf t then some (.cat l)else none
   |none=>none
  |some (.array k e)=>if P.cellsOf t=k*P.cellsOf e then(shOf P n e).map λs=>.cat (Oaa k s)else none
  |_=>none
def Xq(A:Bool) (cs:List D):D:=bif A then .agg cs else cs.headD .dead
mutual
def Km:Sh->List D->Prop
 |.bool,ds=>∃b,ds=[.v (.bool b)]
 |.int k,ds=>∃n,ds=[.v (.int k n)]/\(Lit.int k n).wf=true
 |.str,ds=>∃s:ByteArray,ds=[.v (.string s)]/\s.size<=maxLen
 |.sl S A e,ds=>∃l,ds=[.sl S l]/\l.length<=140737488355328/\∀d∈l,∃cs,Km e cs/\d=Xq A cs
 |.cat l,ds=>Ku l ds
def Ku:List Sh->List D->Prop
 |[],ds=>ds=[]
 |s::l,ds=>∃a b,ds=a++b/\Km s a/\Ku l b
end
theorem uD{G:Gh}{w:World}:∀{a b:List D}{us vs:List Value},VsRel G w a us->VsRel G w b vs->VsRel G w (a++b) (us++vs)
 |[],b,us,vs,c,h2=>by simp only[VsRel]at c;simp_all
 |d::a,b,us,vs,c,h2=>by
  simp only[VsRel]at c;obtain⟨u,r,rfl,e,f⟩:=c;simp only[nab,VsRel];exact⟨u,_,rfl,e,uD f h2⟩
theorem kE{f:TypeId->Option Sh}{P:Program}:∀{fs:List Field}{off:Nat}{l:List Sh}{e:Nat},Ks f P fs off=some (l,e)->off<=e
 |[],off,l,e,h=>by grind[Ks]
 |g::gs,off,l,e,h=>by
  simp only[Ks]at h;split at h
  .split at h
   .rename_i s l' e' h1 h2;simp at h;have:=kE h2;omega
   .cases h
  .cases h
def R0(w:World):Gh:=Gh.bare λb=>b<w.heap.size
theorem fM{w:World}{a:Addr}{v:Value}(h:w.cell? a=some v):a.block<w.heap.size:=by
 grind[World.cell?]
section
variable {H:Type} {enc:TypeId×Value->H} {P:Program} {w:World} {base:Nat} {spare:Nat->Bool} {held:Bool}
theorem jt{P:Program}{e:TypeId}:∀{l:List (DataW H)}{d:DataW H},d∈l->∀n∈d.weights P e,n∈DataW.weightsAll P e l
 |[],_,h=>by cases h
 |x::l,d,h=>by
  intro n hn;simp only[DataW.weightsAll,Jab];rcases kac.1 h with rfl|h
  .simp_all
  .exact .inr (jt h n hn)
theorem MD{n fuel:Nat}{cs:List Value}(m:∀t cs x s,shOf P n t=some s->DataW.trod enc P w base spare held fuel t cs=some x->(∀n∈x.1.weights P t,n<=reachBytes)->∃ds,Km s ds/\VsRel (R0 w) w ds cs/\∀c∈cs,one c=true) :
 ∀(fs:List Field) (off:Nat) (l:List Sh) (e:Nat),Ks (shOf P n) P fs off=some (l,e)->
  (∀f∈fs,∃x,DataW.trod enc P w base spare held fuel f.type ((cs.drop f.offset).take (P.cellsOf f.type))=some x/\∀n∈x.1.weights P f.type,n<=reachBytes)->
  ∃ds,Ku l ds/\VsRel (R0 w) w ds ((cs.drop off).take (e-off))/\∀c∈(cs.drop off).take (e-off),one c=true
 |[],off,l,e,h,_=>by
  simp[Ks]at h;obtain⟨rfl,rfl⟩:=h;refine⟨[],by simp[Ku],by simp[VsRel],by simp⟩
 |g::gs,off,l,e,h,hx=>by
  simp only[Ks]at h;split at h
  .rename_i d;split at h
   .rename_i s l' e' o h2;simp only[wab,mab]at h;obtain⟨rfl,rfl⟩:=h;obtain⟨x,k,j⟩:=hx g (by simp);obtain⟨a,k1,p,k3⟩:=m _ _ _ _ o k j;obtain⟨b,m1,m2,m3⟩:=MD m gs _ _ _ h2 λf hf=>hx f (by grind);have hle:=kE h2;have i:(cs.drop off).take (e'-off)=(cs.drop g.offset).take (P.cellsOf g.type)++(cs.drop (off+P.cellsOf g.type)).take (e'-(off+P.cellsOf g.type)):=by
     rw[show e'-off=P.cellsOf g.type+(e'-(off+P.cellsOf g.type)) by omega,List.take_add,Kad,d]
    rw[i];refine⟨a++b,by simp only[Ku];grind,uD p m2,λc hc=>?_⟩
    grind
   .cases h
  .cases h
theorem wN{n fuel S:Nat}{cs:List Value}{e:TypeId}{s:Sh}(h:∀cs x,DataW.trod enc P w base spare held fuel e cs=some x->(∀n∈x.1.weights P e,n<=reachBytes)->∃ds,Km s ds/\VsRel (R0 w) w ds cs/\∀c∈cs,one c=true) :
 ∀(k i:Nat),(∀j,i<=j->j<i+k->∃x,DataW.trod enc P w base spare held fuel e ((cs.drop (j*S)).take S)=some x/\∀n∈x.1.weights P e,n<=reachBytes)->
  ∃ds,Ku (Oaa k s) ds/\VsRel (R0 w) w ds ((cs.drop (i*S)).take (k*S))/\∀c∈(cs.drop (i*S)).take (k*S),one c=true
 |0,i,_=>⟨[],by simp[Ku],by simp[VsRel],by simp⟩
 |k+1,i,hx=>by
  obtain⟨x,g,f⟩:=hx i (dab _) (by omega);obtain⟨a,k1,l,k3⟩:=h _ _ g f;obtain⟨b,m1,m2,m3⟩:=wN (n:=n) h k (i+1) λj h1 h2=>hx j (by omega) (by omega);have d:(cs.drop (i*S)).take ((k+1)*S)=(cs.drop (i*S)).take S++(cs.drop ((i+1)*S)).take (k*S):=by
   grind[Nat.succ_mul,Kad]
  rw[d];refine⟨a++b,by simp only[cac,Ku];grind,uD l m2,λc hc=>?_⟩
  grind
theorem TN{A:Bool}{ds:List D}{cs:List Value}(h:VsRel (R0 w) w ds cs) (f:∀c∈cs,one c=true) (g:A=false->cs.length=1) :
 ∃u:Value,VRel (R0 w) w (Xq A ds) u/\u.cells=cs.toArray/\(A=true->u=.agg cs.toArray)/\(A=false->∃c,cs=[c]/\u=c):=by
 cases A with
 |true=>exact⟨.agg cs.toArray,by simp only[Xq,cond_true,VRel];simp_all,rfl,λ_=>rfl,λh=>by cases h⟩
 |false=>
  match cs,g rfl with
  |[c],_=>
   match ds,h with
   |d::r,h=>
    simp only[VsRel]at h;obtain⟨u,us,hu,hv,hr⟩:=h;injection hu with e hu2;subst e;have b:=f c (by simp);have a:c.cells=[c].toArray:=by cases c<;>simp[one]at b<;>rfl
    exact⟨c,by grind[Xq],a,λh=>Bool.noConfusion h,λ_=>⟨c,rfl,rfl⟩⟩
theorem gX{n:Nat}{t:TypeId}{s:Sh}(h:shOf P n t=some s) {fuel:Nat}{cs:List Value}{x:DataW H×List MemPlace}(hx:DataW.trod enc P w base spare held fuel t cs=some x):aggT P t=false->cs.length=1:=by
 intro c
 cases n with
 |zero=>grind[shOf]
 |succ n=>
  simp only[shOf]at h;simp only[aggT]at c;split at h
  .rename_i hu;obtain⟨b,rfl,_⟩:=DataW.trod_bool hu hx;rfl
  .rename_i hu;obtain⟨b,rfl,_⟩:=DataW.trod_int hu hx;rfl
  .rename_i hu;obtain⟨b,rfl,_⟩:=DataW.trod_string hu hx;rfl
  .rename_i hu;rcases DataW.trod_slice hu hx with⟨rfl,_⟩|⟨a,len,cap,elems,rest,m,_,rfl,_⟩<;>rfl
  all_goals simp_all
theorem iz:∀(n:Nat) (fuel:Nat) (t:TypeId) (cs:List Value) (x:DataW H×List MemPlace) (s:Sh),shOf P n t=some s->DataW.trod enc P w base spare held fuel t cs=some x->(∀n∈x.1.weights P t,n<=reachBytes)->
 ∃ds,Km s ds/\VsRel (R0 w) w ds cs/\∀c∈cs,one c=true
 |0,fuel,t,cs,x,s,h,_,_=>by grind[shOf]
 |n+1,fuel,t,cs,x,s,h,hx,o=>by
  simp only[shOf]at h;split at h
  .rename_i hu;injection h with h;subst h;obtain⟨b,rfl,_⟩:=DataW.trod_bool hu hx;exact⟨[.v (.bool b)],by simp only[Km];simp,by simp[VsRel,VRel],by simp[one]⟩
  .rename_i k hu;injection h with h;subst h;obtain⟨b,rfl,_,hw⟩:=DataW.trod_int hu hx;exact⟨[.v (.int k b)],by simp only[Km];simp_all,by simp[VsRel,VRel],by simp[one]⟩
  .rename_i hu;injection h with h;subst h;obtain⟨b,rfl,_,hw⟩:=DataW.trod_string hu hx;exact⟨[.v (.string b)],by simp only[Km];simp_all,by simp[VsRel,VRel],by simp[one]⟩
  .rename_i e hu;split at h
   .rename_i F;simp only[Paa]at h;obtain⟨I,p,rfl⟩:=h;rcases DataW.trod_slice hu hx with⟨rfl,_⟩|⟨a,len,cap,elems,rest,m,_,rfl,rfl,hb,hl,hm,g,L,_,_⟩
    .refine⟨[.sl (P.cellsOf e) []],by simp only[Km];simp,?_,by simp[one]⟩;simp only[VsRel,VRel]
     grind
    .simp only[DataW.weights,hu,kac,Jab]at o;have M:=o _ (.inl rfl);have hle:len<=140737488355328:=by
      simp only[nac]at M;have C:=Nat.le_mul_of_pos_right (elems.length+rest.length) F.2
      grind[reachBytes]
     have each:∀i,i<len->∃d u,(∃cs,Km I cs/\d=Xq (aggT P e) cs)/\VRel (R0 w) w d u/\u.cells.size=P.cellsOf e/\(∀j c,u.cells[j]?=some c->one c=true/\w.cell? ((a.add (i*P.cellsOf e)).add j)=some c):=by
      intro i hi;have C:=L i hi;rw[Maa (by omega)]at C;obtain⟨ecs,Q,y⟩:=qac.1 C;obtain⟨ds,m1,m2,m3⟩:=iz n _ _ _ _ _ p y (λq hq=>o q (.inr (.inl (jt (nae (Qaa _)) q hq))));obtain⟨_,q1,q2⟩:=World.cells?_some Q;obtain⟨u,r1,r2,_,_⟩:=TN (A:=aggT P e) m2 m3 (gX p y)
      grind
     have G:∀k,k<=len->∃l:List D,l.length=k/\(∀d∈l,∃cs,Km I cs/\d=Xq (aggT P e) cs)/\∀(i:Nat) d,l[i]?=some d->∃u,VRel (R0 w) w d u/\u.cells.size=P.cellsOf e/\(∀j c,u.cells[j]?=some c->one c=true/\w.cell? ((a.add (i*P.cellsOf e)).add j)=some c):=by
      intro k
      induction k with
      |zero=>simp
      |succ k Z=>
       intro hk;obtain⟨l,U,l2,R⟩:=Z (by omega);obtain⟨d,u,d1,d2,d3,d4⟩:=each k (by omega);refine⟨l++[d],by grind,λd' K=>?_,λi d' K=>?_⟩
       all_goals grind
     obtain⟨l,U,l2,R⟩:=G len (dab _);refine⟨[.sl (P.cellsOf e) l],by simp only[Km];simp_all,?_,by simp[one]⟩;simp only[VsRel,VRel];refine⟨_,_,rfl,⟨some a,len,cap,rfl,U.symm,hl,?_⟩,rfl⟩
     cases l with
     |nil=>simp
     |cons X l'=>
      obtain⟨V,_,us,uc⟩:=R 0 X rfl;have Y:∃c,V.cells[0]?=some c:=⟨V.cells[0]'(by omega),Array.getElem?_eq_getElem (by omega)⟩;obtain⟨c,hc⟩:=Y;have z:=(uc 0 c hc).2;have E:(a.add (0*P.cellsOf e)).add 0=a:=by simp[Addr.add]
      rw[E]at z;obtain⟨b,off,spot⟩:=a;have B:spot=none:=by simpa using World.cell?_spot z
      subst B;refine .inr ⟨b,off,rfl,fM z,?_⟩;rw[Ae];intro i d hd;obtain⟨u,u1,u2,u3⟩:=R i d hd;refine⟨u,u1,u2,λj c T=>?_⟩;obtain⟨W,c2⟩:=u3 j c T;refine⟨W,?_⟩;have haddr:(Addr.add (Addr.add ⟨b,off,none⟩ (i*P.cellsOf e)) j)=⟨b,off+i*P.cellsOf e+j,none⟩:=by
       unfold Addr.add
       grind
      simp_all
   .cases h
  .rename_i fs hu;split at h
   .rename_i l e N;split at h
    .rename_i he;injection h with h;subst h;obtain⟨xs,m,rfl,rfl,g,O,r⟩:=DataW.trod_struct hu hx;simp only[DataW.weights,hu]at o;obtain⟨ds,Q,y,k3⟩:=MD (n:=n) (fuel:=m) (cs:=cs) (λt cs x s C h2 J=>iz n _ _ _ _ _ C h2 J) fs.toList 0 l e N (λf hf=>by
      obtain⟨i,hi,hfi⟩:=List.mem_iff_getElem.1 hf;have hi':i<fs.size:=by omega
      have:=r i f (by simp_all);rw[Maa (by omega)]at this;exact⟨_,this,λq hq=>o q (DataW.weights_mem_each (j:=i) (t:=f.type) (d:=(xs[i]'(by omega)).1) (by simp_all) (by simp_all) q hq)⟩)
     rw[lad,ead,he,←g,Eac]at y k3;exact⟨ds,by simp only[Km];omega,y,k3⟩
    .cases h
   .cases h
  .rename_i k e hu;split at h
   .rename_i he;simp only[Paa]at h;obtain⟨I,p,rfl⟩:=h;obtain⟨xs,m,rfl,rfl,g,O,r⟩:=DataW.trod_array hu hx;simp only[DataW.weights,hu]at o;obtain⟨ds,Q,y,k3⟩:=wN (n:=n) (fuel:=m) (S:=P.cellsOf e) (cs:=cs) (e:=e) (s:=I) (λcs x h2 J=>iz n _ _ _ _ _ p h2 J) k 0 (λj _ T=>by
     grind[jt,nae,Qaa])
    rw[Nat.zero_mul,lad,←he,←g,Eac]at y k3;exact⟨ds,by simp only[Km];omega,y,k3⟩
   .cases h
  .cases h
def LookV(A:Bool) (s:Sh) (d:D):Prop:=∃ds,Km s ds/\d=Xq A ds
theorem arg_tree{n:Nat}{t:TypeId}{s:Sh}{v:Value}{d:DataW H}{p:List MemPlace}{r:Reach}{g:Nat}(h:shOf P n t=some s) (hx:DataW.Trod enc P w base spare held t v d p) (hv:Value.okWide P w r g t v) (f:∀n∈d.weights P t,n<=reachBytes) :
 ∃d',LookV (aggT P t) s d'/\VRel (R0 w) w d' v:=by
 obtain⟨fuel,hx⟩:=hx;obtain⟨ds,i,j,k3⟩:=iz n _ _ _ _ _ h hx f;obtain⟨u,u1,u2,k,m⟩:=TN (A:=aggT P t) j k3 (gX h hx);refine⟨Xq (aggT P t) ds,⟨ds,i,rfl⟩,?_⟩;have:u=v:=by
  cases e:aggT P t with
  |true=>
   rw[k e];unfold aggT at e;split at e
   .rename_i hu;simp only[Value.okWide,hu]at hv;obtain⟨cs,rfl,_⟩:=hv;simp[Value.cells]
   .rename_i hu;simp only[Value.okWide,hu]at hv;obtain⟨cs,rfl,_⟩:=hv;simp[Value.cells]
   simp_all
  |false=>
   obtain⟨c,hc,rfl⟩:=m e
   cases n with
   |zero=>grind[shOf]
   |succ n=>
    simp only[shOf]at h;unfold aggT at e;split at h
    .rename_i hu;obtain⟨b,rfl⟩:=okWide_bool hu hv;grind[Value.cells]
    .rename_i hu;obtain⟨b,rfl⟩:=okWide_int hu hv;grind[Value.cells]
    .rename_i hu;obtain⟨b,rfl⟩:=okWide_string hu hv;grind[Value.cells]
    .rename_i hu;obtain⟨a,l,c',rfl⟩:=okWide_slice hu hv;grind[Value.cells]
    all_goals simp_all
 simp_all
end
theorem FN{G G':Gh}{w w':World}{m':List Ent}(h:Step G w [] G' w' m'):Below w.heap.size w w':=
 ⟨h.os,h.tape,h.output,h.size,λk hk=>h.keep k hk λ⟨i,e,he,_⟩=>by simp at he⟩
theorem gok_tab{P:Program}{W:World}{name:String}(i:P.globalNamed name=some 2) (f:Go.Lib.TabIs P W name .i64 [31,28,31,30,31,30,31,31,30,31,30,31]):GOK (R0 W) W:=by
 intro g d h;unfold gtab at h;split at h
 .injection h with h;subst h;have hc:=f.cell i;refine(by
   simp only[VRel];refine⟨2,0,.agg (([31,28,31,30,31,30,31,31,30,31,30,31]:List Int).map λn=>Value.int .i64 n).toArray,rfl,?_,⟨_,rfl,?_,?_⟩,?_⟩
   .exact fM (a:=⟨2,0,none⟩) (hc 0 (by decide))
   .simp only[xab,Tac,VsRel,VRel];simp
   .intro c hc;simp only[xab,Tac,kac,List.not_mem_nil,or_false]at hc;rcases hc with rfl|rfl|rfl|rfl|rfl|rfl|rfl|rfl|rfl|rfl|rfl|rfl<;>rfl
   .intro j c hj;have e:(([31,28,31,30,31,30,31,31,30,31,30,31]:List Int).map λn=>Value.int .i64 n)[j]?=some c:=by grind[Value.cells]
    obtain⟨hlt,b⟩:=yab.1 e;have hlt':j<([31,28,31,30,31,30,31,31,30,31,30,31]:List Int).length:=by grind
    rw[List.getElem_map]at b;subst b;refine⟨rfl,?_⟩
    simp_all:VRel (R0 W) W (.pt (.agg ([31,28,31,30,31,30,31,31,30,31,30,31].map λn=>.v (.int .i64 n)))) (.pointer (some ⟨2,0,none⟩)))
 .cases h
theorem law_walk{P:Program}{f:FuncId}{ds:List D}{vs:List Value}{w:World}(h:CallT P f ds [] λd _=>d=.v (.bool true)) (hv:VsRel (R0 w) w ds vs) (b:GOK (R0 w) w) :
 Calls P f vs.toArray w λe w'=>e=.returned (.bool true)/\Below w.heap.size w w':=by
 refine(h.2 (R0 w) w vs hv (jB (λ_ h=>h) b)).mono ?_;rintro e w' ⟨v,d,m',G',rfl,rfl,a,-,c⟩;simp only[VRel]at a;subst a;exact⟨rfl,FN c⟩
variable {P:Program}
theorem N6(op:BinOp) (j k:IntKind) (a b:Int):yg (binOp op 0 (.int j a) (.int k b))=th op j a k b:=(vY ..).symm
theorem G4(k:IntKind) (n:Int):k.wrap n=ca k n:=(qw k n).symm
variable {P:Program}
abbrev Qq:=List (Option Nat×Nat×Nat)
def qA(ρ:Qq) (j:Nat):Bool:=ρ.all λo=>match o.1 with|some k=>k !=j|none=>true
inductive Sbs (ρ:Qq) (m:List Ent):List D->List D->Prop
 |nil:Sbs ρ m [] []
 |same {d l r} (hf:oa d=true) (h:Sbs ρ m l r):Sbs ρ m (d::l) (d::r)
 |dead {d l r} (h:Sbs ρ m l r):Sbs ρ m (d::l) (.dead::r)
 |nils {S l r} (h:Sbs ρ m l r):Sbs ρ m (.v (.slice none 0 0)::l) (.sl S []::r)
 |yD {S u l r} (i:Nat) (hi:ρ[i]?=some (none,S,u)) (h:Sbs ρ m l r):Sbs ρ m (.v (.slice none 0 0)::l) (.own i u::r)
 |agg {a b l r} (ha:Sbs ρ m a b) (h:Sbs ρ m l r):Sbs ρ m (.agg a::l) (.agg b::r)
 |tup {a b l r} (ha:Sbs ρ m a b) (h:Sbs ρ m l r):Sbs ρ m (.tup a::l) (.tup b::r)
 |sl {S a b l r} (ha:Sbs ρ m a b) (h:Sbs ρ m l r):Sbs ρ m (.sl S a::l) (.sl S b::r)
 |own {j v u i l r} (hi:ρ[i]?=some (some j,v,u)) (h:Sbs ρ m l r):Sbs ρ m (.own j v::l) (.own i u::r)
 |ref {j v u i x s l r} (hi:ρ[i]?=some (some j,v,u)) (h:Sbs ρ m l r):Sbs ρ m (.ref j v x s::l) (.ref i u x s::r)
 |view {j v u i lo n l r} (hi:ρ[i]?=some (some j,v,u)) (h:Sbs ρ m l r):Sbs ρ m (.view j v lo n::l) (.view i u lo n::r)
 |mp {j i l r} (hi:ρ[i]?=some (some j,0,0)) (h:Sbs ρ m l r):Sbs ρ m (.mp j::l) (.mp i::r)
 |cf {S j v a b l r} (hm:m[j]?=some (.live S v a)) (ho:qA ρ j=true) (ha:Sbs ρ m a b) (h:Sbs ρ m l r):Sbs ρ m (.own j v::l) (.sl S b::r)
 |fview {S j v lo n a b l r} (hm:m[j]?=some (.live S v a)) (ho:qA ρ j=true) (hn:lo+n<=a.length) (ha:Sbs ρ m ((a.drop lo).take n) b) (h:Sbs ρ m l r):Sbs ρ m (.view j v lo n::l) (.sl S b::r)
 |fref {S j v x a d e l r} (hm:m[j]?=some (.live S v a)) (ho:qA ρ j=true) (hx:a[x]?=some d) (ha:Sbs ρ m [d] [e]) (h:Sbs ρ m l r):Sbs ρ m (.ref j v x 0::l) (.pt e::r)
 |pt {d e l r} (ha:Sbs ρ m [d] [e]) (h:Sbs ρ m l r):Sbs ρ m (.pt d::l) (.pt e::r)
 |fn {f a b c d l r} (ha:Sbs ρ m a b) (hc:Sbs ρ m c d) (h:Sbs ρ m l r):Sbs ρ m (.fn f a c::l) (.fn f b d::r)
 |ifc {t d e l r} (ha:Sbs ρ m [d] [e]) (h:Sbs ρ m l r):Sbs ρ m (.ifc t d::l) (.ifc t e::r)
def WY(es:List (Value×D)):Bool:=es.all λp=>oa p.2
inductive Ets (ρ:Qq) (m:List Ent):Qq->List Ent->Prop
 |nil:Ets ρ m [] []
 |live {j v u S l l' os es} (hm:m[j]?=some (.live S v l)) (hl:Sbs ρ m l l') (h:Ets ρ m os es):Ets ρ m ((some j,v,u)::os) (.live S u l'::es)
 |new {S u os es} (h:Ets ρ m os es):Ets ρ m ((none,S,u)::os) (.live S u []::es)
 |mp {j es os ees} (hm:m[j]?=some (.mp es)) (hf:WY es=true) (h:Ets ρ m os ees):Ets ρ m ((some j,0,0)::os) (.mp es::ees)
structure Tell (ρ:Qq) (s S:St):Prop where
 t:Sbs ρ s.m s.t S.t
 m:Ets ρ s.m ρ S.m
 one:(ρ.filterMap (·.1)).Nodup
def fc(G:Gh) (m:List Ent) (ρ:Qq):Gh where
 F b:=G.F b\/(df G m b/\∀(i j:Nat) v,ρ[i]?=some (some j,v)->G.B j≠some b)
 n:=ρ.length
 B i:=match ρ[i]? with|some (some j,_)=>G.B j|_=>none
 V i:=match ρ[i]? with|some (_,_,u)=>u|_=>0
 S i:=match ρ[i]? with|some (some j,_)=>G.S j|some (none,S,_)=>S|_=>0
 N i:=match ρ[i]? with|some (some j,_)=>G.N j|_=>0
 C i:=match ρ[i]? with|some (some j,_)=>G.C j|_=>(0,0)
theorem K0{ρ:Qq}{j:Nat}(h:qA ρ j=true):∀(i k:Nat) v,ρ[i]?=some (some k,v)->k≠j:=by
 grind[qA]
theorem rD{G:Gh}{w:World}{m:List Ent}{ρ:Qq}(hi:Inv G w m) (d:∀(i j:Nat) v,ρ[i]?=some (some j,v)->∃e:Ent,m[j]?=some e/\e.isLive=true) {j:Nat}{e:Ent}(hm:m[j]?=some e) (hl:e.isLive=true) (ho:qA ρ j=true) {b:Nat}(hb:G.B j=some b):(fc G m ρ).F b:=by
 refine .inr ⟨⟨j,e,hm,hl,hb⟩,λi k v a g=>?_⟩;obtain⟨e',c,f⟩:=d i k v a;exact K0 ho i k v a (hi.apart k j e' e c hm f hl b g hb)
theorem Sbs.length{ρ:Qq}{m:List Ent}{l r:List D}(h:Sbs ρ m l r):l.length=r.length:=by
 induction h<;>simp_all
theorem lD{ρ:Qq}{i:Nat}{o:Option Nat×Nat×Nat}(h:ρ[i]?=some o):i<ρ.length:=by
 grind
theorem Sbs.rel{G:Gh}{w:World}{m:List Ent}{ρ:Qq}(hi:Inv G w m) (B:∀(i j:Nat) v,ρ[i]?=some (some j,v)->∃e:Ent,m[j]?=some e/\e.isLive=true/\(∀S H l,e=.live S H l->H=v.1)) {l r:List D}(h:Sbs ρ m l r) :
 (∀us,VsRel G w l us->VsRel (fc G m ρ) w r us)/\(∀b S off,Ta G w b S l off->Ta (fc G m ρ) w b S r off):=by
 have z:∀(i j:Nat) v,ρ[i]?=some (some j,v)->∃e:Ent,m[j]?=some e/\e.isLive=true:=λi j v h=>by grind
 have both:∀{d e:D} {l r:List D},(∀u,VRel G w d u->VRel (fc G m ρ) w e u)->
  ((∀us,VsRel G w l us->VsRel (fc G m ρ) w r us)/\(∀b S off,Ta G w b S l off->Ta (fc G m ρ) w b S r off))->
  ((∀us,VsRel G w (d::l) us->VsRel (fc G m ρ) w (e::r) us)/\(∀b S off,Ta G w b S (d::l) off->Ta (fc G m ρ) w b S (e::r) off)):=by
  intro d e l r h1 h2;refine⟨λus hv=>?_,λb S off hv=>?_⟩
  .simp only[VsRel]at hv⊢
   grind
  .simp only[Ta]at hv⊢
   grind
 have first:∀{d e:D},(∀us,VsRel G w [d] us->VsRel (fc G m ρ) w [e] us)->∀u,VRel G w d u->VRel (fc G m ρ) w e u:=by
  intro d e h u hu;have:=h [u] (by simp only[VsRel];simp_all);simp only[VsRel]at this
  simp_all
 induction h with
 |nil=>exact⟨λus h=>by simpa [VsRel] using h,λ_ _ _ _=>by simp[Ta]⟩
 |same hf h o=>exact both (λu hu=>VRel.free (G':=fc G m ρ) ⟨λ_ h=>Or.inl h,λ_ _=>rfl⟩ hf hu) o
 |dead h o=>exact both (λu _=>by simp[VRel]) o
 |nils h o=>exact both (λu hu=>by simp only[VRel]at hu⊢;grind) o
 |yD i k h o=>
  refine both (λu hu=>?_) o;simp only[VRel]at hu⊢;exact⟨none,0,0,hu,lD k,by grind[fc],λ_=>by grind[fc]⟩
 |agg ha h q o=>
  refine both (λu hu=>?_) o;simp only[VRel]at hu⊢
  grind
 |tup ha h q o=>
  refine both (λu hu=>?_) o;simp only[VRel]at hu⊢
  grind
 |sl ha h q o=>
  refine both (λu hu=>?_) o;simp only[VRel]at hu⊢;obtain⟨a,n,cap,rfl,hn,hc,g⟩:=hu;refine⟨a,n,cap,rfl,by rw[←ha.length];omega,hc,?_⟩;rcases g with rfl|⟨b,off,rfl,F,hr⟩
  .exact .inl (gab ha.length.symm)
  .exact .inr ⟨b,off,rfl,.inl F,q.2 b _ off hr⟩
 |own k h o=>
  refine both (λu hu=>?_) o;obtain⟨e,he,hl,hv⟩:=B _ _ _ k;simp only[VRel]at hu⊢;obtain⟨a,n,c,rfl,g1,g2,g3⟩:=hu;refine⟨a,n,c,rfl,lD k,by grind[fc],λ_=>?_⟩;have f:=hi.ent _ _ he
  cases e with
  |live S H l'=>
   obtain⟨y,_⟩:=f;have:=g3 (by grind)
   grind[fc]
  |mp es=>
   obtain⟨y,_⟩:=f
   grind[fc]
  |gone=>grind[Ent.isLive]
 |ref k h o=>
  refine both (λu hu=>?_) o;obtain⟨e,he,hl,hv⟩:=B _ _ _ k;simp only[VRel]at hu⊢;obtain⟨a,rfl,g1,g2,g3⟩:=hu;refine⟨a,rfl,lD k,by grind[fc],λ_=>?_⟩;have f:=hi.ent _ _ he
  cases e with
  |live S H l'=>
   obtain⟨y,_⟩:=f;have:=g3 (by grind);simpa [fc,k] using this
  |mp es=>
   obtain⟨y,_⟩:=f;have:=g3 (by omega);simpa [fc,k] using this
  |gone=>grind[Ent.isLive]
 |view k h o=>
  refine both (λu hu=>?_) o;obtain⟨e,he,hl,hv⟩:=B _ _ _ k;simp only[VRel]at hu⊢;obtain⟨a,c,rfl,U,g1,g2,g3⟩:=hu;refine⟨a,c,rfl,U,lD k,by grind[fc],λ_=>?_⟩;have f:=hi.ent _ _ he
  cases e with
  |live S H l'=>
   obtain⟨y,_⟩:=f;have:=g3 (by grind);simpa [fc,k] using this
  |mp es=>
   obtain⟨y,_⟩:=f;have:=g3 (by omega);simpa [fc,k] using this
  |gone=>grind[Ent.isLive]
 |mp k h o=>
  refine both (λu hu=>?_) o;simp only[VRel]at hu⊢;obtain⟨b,rfl,g1,g2⟩:=hu;obtain⟨e,he,hl,hv⟩:=B _ _ _ k;have f:=hi.ent _ _ he;refine⟨b,rfl,lD k,λ_=>?_⟩
  cases e with
  |live S H l'=>
   obtain⟨y,_⟩:=f;have:=g2 (by grind)
   grind[fc]
  |mp es=>
   obtain⟨y,_⟩:=f
   grind[fc]
  |gone=>grind[Ent.isLive]
 |cf hm ho ha h q o=>
  refine both (λu hu=>?_) o;obtain⟨y,Q,M,R,A⟩:=hi.ent _ _ hm;simp only[VRel]at hu⊢;obtain⟨a,n,c,rfl,g1,g2,g3⟩:=hu;obtain⟨rfl,rfl,rfl⟩:=g3 y;refine⟨_,_,_,rfl,by rw[M,ha.length],by omega,?_⟩;rcases A with A|⟨L,cs,T,s,F,E,J,t⟩
  .have N:=congrArg wae A.2;dsimp only at N;exact .inl (gab (by have:=ha.length;omega))
  .exact .inr ⟨L,(G.C _).2,by simp_all,rD hi z hm rfl ho s,q.2 L _ _ t⟩
 |@fview S j v lo n a b l r hm ho hn ha h q o=>
  refine both (λu hu=>?_) o;obtain⟨y,Q,M,R,A⟩:=hi.ent _ _ hm;simp only[VRel]at hu⊢;obtain⟨p,c,rfl,P,O,K,hx⟩:=hu;have I:=ha.length;rw[List.length_take,List.length_drop]at I;refine⟨p,_,c,rfl,by omega,P,?_⟩;rcases hx y with rfl|⟨b,hb,rfl⟩
  .grind
  .rcases A with A|⟨L,cs,T,s,F,E,J,t⟩
   .simp_all
   .rw[hb]at s;injection s with s;subst s;refine .inr ⟨_,_,rfl,rD hi z hm rfl ho hb,q.2 _ _ _ ?_⟩
    grind[qu,ou]
 |fref hm ho hx ha h q o=>
  refine both (λu hu=>?_) o;obtain⟨y,Q,M,R,A⟩:=hi.ent _ _ hm;simp only[VRel]at hu⊢;obtain⟨p,rfl,O,K,W⟩:=hu;obtain⟨b,hb,rfl⟩:=W y;rcases A with A|⟨L,cs,T,s,F,E,J,t⟩
  .simp_all
  .rw[hb]at s;injection s with s;subst s;obtain⟨u,X,k2,k3⟩:=Ae.1 t _ _ hx;refine⟨b,_,u,rfl,rD hi z hm rfl ho hb,first q.1 u X,?_⟩
   grind
 |pt ha h q o=>
  refine both (λu hu=>?_) o;simp only[VRel]at hu⊢;obtain⟨b,off,x,rfl,F,hd,V⟩:=hu;exact⟨b,off,x,rfl,.inl F,first q.1 x hd,V⟩
 |fn ha hc h q ihc o=>
  refine both (λu hu=>?_) o;simp only[VRel]at hu⊢
  grind
 |ifc ha h q o=>
  refine both (λu hu=>?_) o;simp only[VRel]at hu⊢
  grind
theorem Ets.get{ρ:Qq}{m:List Ent}{os:Qq}{es:List Ent}(h:Ets ρ m os es):os.length=es.length/\∀(i:Nat) e,es[i]?=some e->
 (∃j v u S l l',os[i]?=some (some j,v,u)/\m[j]?=some (.live S v l)/\Sbs ρ m l l'/\e=.live S u l')\/(∃S u,os[i]?=some (none,S,u)/\e=.live S u [])\/(∃j l,os[i]?=some (some j,0,0)/\m[j]?=some (.mp l)/\WY l=true/\e=.mp l):=by
 induction h with
 |nil=>simp
 |live hm hl h a=>
  grind
 |new h a=>
  grind
 |mp hm hf h a=>
  grind
theorem Ets.src{ρ:Qq}{m:List Ent}{os:Qq}{es:List Ent}(h:Ets ρ m os es):∀(i j:Nat) v,os[i]?=some (some j,v)->∃e:Ent,m[j]?=some e/\e.isLive=true/\(∀S a l,e=.live S a l->a=v.1):=by
 induction h with
 |nil=>simp
 |live hm hl h b=>
  intro i j v hi
  cases i with
  |zero=>
   simp only[Kab,wab,mab]at hi;obtain⟨rfl,rfl⟩:=hi;exact⟨_,hm,rfl,λS a l he=>by simp_all⟩
  |succ i=>grind
 |new h b=>
  grind
 |mp hm hf h b=>
  intro i j v hi
  cases i with
  |zero=>
   simp only[Kab,wab,mab]at hi;obtain⟨rfl,rfl⟩:=hi;exact⟨_,hm,rfl,λS a l he=>nomatch he⟩
  |succ i=>grind
theorem Yd.free{G G':Gh}{w:World}(a:∀b,G.F b->G'.F b):∀{l:List (Value×D)}{es:List MapEntry},WY l=true->Yd G w l es->Yd G' w l es
 |[],es,_,h=>h
 |(k,d)::l,es,hf,h=>by
  simp only[WY,lac,Vaa]at hf;obtain⟨e,r,c,f,h2,g⟩:=h;exact⟨e,r,c,f,VRel.free (G':=G') ⟨λ_ h=>a _ h,λ_ _=>rfl⟩ hf.1 h2,Yd.free a hf.2 g⟩
theorem uS{ρ:Qq}(h:(ρ.filterMap (·.1)).Nodup):∀(i a j:Nat) v b,ρ[i]?=some (some j,v)->ρ[a]?=some (some j,b)->i=a:=by
 induction ρ with
 |nil=>simp
 |cons o os ih=>
  grind
def gy(ρ:Qq):Nat->Bool
 |0=>true
 |n+1=>gy ρ n&&(match ρ[n]? with|some (some j,v,u)=>j==n&&u==v|_=>false)
theorem NC{ρ:Qq}:∀{n:Nat},gy ρ n=true->∀i,i<n->∃v,ρ[i]?=some (some i,v,v)
 |0,_,i,hi=>absurd hi (fae i)
 |n+1,h,i,hi=>by
  simp only[gy,Vaa]at h;rcases sac i n with a|a
  .exact NC h.1 i a
  grind
theorem BA{N:Nat}{ρ:Qq}{s S:St}(hk:gy ρ N=true) (h:Tell ρ s S) {G:Gh}{w:World}{a:Act}(hr:Rel G w a s):Rel (fc G s.m ρ) w a S/\StepN N G w s.m (fc G s.m ρ) w S.m:=by
 have hi:=hr.inv;have p:=h.m.src;have d:=h.m.get;have hrow:∀{l r:List D},Sbs ρ s.m l r->∀b S off,Ta G w b S l off->Ta (fc G s.m ρ) w b S r off:=λQ=>(Q.rel hi p).2;have q:∀b,df (fc G s.m ρ) S.m b->df G s.m b:=by
  rintro b ⟨i,e,he,hl,hB⟩;rcases d.2 i e he with⟨j,v,u,S',l,l',c,h2,f,rfl⟩|⟨S',u,c,rfl⟩|⟨j,l,c,h2,f,rfl⟩
  .exact⟨j,_,h2,rfl,by grind[fc]⟩
  .grind[fc]
  .exact⟨j,_,h2,rfl,by grind[fc]⟩
 refine⟨⟨(h.t.rel hi p).1 _ hr.t,⟨d.1,?_,?_,?_,hi.gl.bare λ_ h=>.inl h⟩,hr.defers⟩,⟨λ_ hb=>.inl hb,λ_ _=>rfl,?_,?_,rfl,rfl,rfl,dab _,λ_ _ _=>rfl,?_,λb _ hb=>q b hb⟩⟩
 .rintro b (hb|hb)
  .exact hi.F b hb
  .exact(df.lt hi hb.1).1
 .intro i e he;rcases d.2 i e he with⟨j,v,u,S',l,l',c,h2,f,rfl⟩|⟨S',u,c,rfl⟩|⟨j,l,c,h2,f,rfl⟩
  rotate_left 2
  .obtain⟨J,z,L,K,o,O,g,x⟩:=hi.ent _ _ h2;refine⟨by grind[fc],z,L,K,by grind[fc],?_,g,Yd.free (G':=fc G s.m ρ) (λ_ h=>Or.inl h) f x⟩;rintro(hb|⟨_,hb⟩)
   all_goals grind
  .obtain⟨J,a2,a3,a4,H⟩:=hi.ent _ _ h2;have hlen:=f.length;refine⟨by grind[fc],by grind[fc],by grind[fc],by grind[fc],?_⟩;rcases H with H|⟨z,cs,T,o,O,g,hsz,x⟩
   .grind[fc]
   .refine .inr ⟨z,cs,T,by grind[fc],?_,g,by grind[fc],by grind[fc]⟩;rintro(hb|⟨_,hb⟩)
    all_goals grind
  .exact⟨by grind[fc],by grind[fc],by grind[fc],by simp,.inl (by grind[fc])⟩
 .intro i R e e' he C hl hl' b hb o;have src:∀(i:Nat) e,S.m[i]?=some e->(fc G s.m ρ).B i=some b->∃j v A,ρ[i]?=some (some j,v)/\s.m[j]?=some A/\A.isLive=true/\G.B j=some b:=by
   intro i e he hb;rcases d.2 i e he with⟨j,v,u,S1,l,l',c,h2,f,rfl⟩|⟨S1,u,c,rfl⟩|⟨j,l,c,h2,f,rfl⟩
   .exact⟨j,_,_,c,h2,rfl,by grind[fc]⟩
   .grind[fc]
   .exact⟨j,_,_,c,h2,rfl,by grind[fc]⟩
  obtain⟨j,v,A,c,h2,f,y⟩:=src i e he hb;obtain⟨I,U,e0',g1,g2,g3,g4⟩:=src R e' C o;have P:j=I:=hi.apart j I _ _ h2 g2 f g3 b y g4;subst P;exact uS h.one _ _ _ _ _ c g1
 .cases N with
  |zero=>omega
  |succ n=>
   obtain⟨v,hv⟩:=NC hk n (Vad n);exact lD hv
 .intro i E;obtain⟨v,hv⟩:=NC hk i E;obtain⟨e,he,hl,hver⟩:=p _ _ _ hv;have hent:=hi.ent _ _ he;have hV:G.V i=v:=by
   rcases d.2 i _ (Maa (by grind))with⟨j,U,u,S',l,l',c,h2,f,y⟩|⟨S',u,c,y⟩|⟨j,l,c,h2,f,y⟩
   .rw[hv]at c;injection c with c;injection c with k c;injection k with k;injection c with c M;subst k;subst c;exact(hi.ent _ _ h2).1
   .simp_all
   .rw[hv]at c;injection c with c;injection c with k c;injection k with k;injection c with c M;subst k;subst c;exact(hi.ent _ _ h2).1
  grind[fc]
 .rintro b _ (hb|⟨hb,_⟩)
  all_goals simp_all
theorem T.tell{N:Nat}(ρ:Qq) {c:C}{K:Exit->St->Prop}{s S:St}(hk:gy ρ N=true) (h:Tell ρ s S) (b:Tm.T P N c K S):Tm.T P N c K s:=
 T.ghost (λG w a _ hr=>⟨_,(BA hk h hr).1,(BA hk h hr).2⟩) b
variable {P:Program} {N:Nat}
inductive Ex (σ β ρ:Type) where
 |go (s:σ)
 |brk (b:β)
 |ret (v:ρ)
section
variable {σ β ρ:Type}
def Wq(step:σ->Option (Ex σ β ρ)):Nat->σ->Option (β⊕ρ)
 |0,_=>none
 |n+1,s=>
  match step s with
  |none=>none
  |some (.go s')=>Wq step n s'
  |some (.brk b)=>some (.inl b)
  |some (.ret v)=>some (.inr v)
theorem mA{step:σ->Option (Ex σ β ρ)}:∀{n:Nat}{s:σ}{r},Wq step n s=some r->∀k,Wq step (n+k) s=some r
 |0,s,r,h,k=>by grind[Wq]
 |n+1,s,r,h,k=>by
  rw[show n+1+k=(n+k)+1 by omega];simp only[Wq]at h⊢;split
  .simp_all
  .rename_i a;rw[a]at h;exact mA h k
  all_goals simp_all
open Classical in
noncomputable def da(step:σ->Option (Ex σ β ρ)) (s:σ):Option (β⊕ρ):=
 if h:∃n r,Wq step n s=some r then some h.choose_spec.choose else none
theorem HG{step:σ->Option (Ex σ β ρ)}{s:σ}{n:Nat}{r}(h:Wq step n s=some r):da step s=some r:=by
 have a:∃n r,Wq step n s=some r:=⟨n,r,h⟩;unfold da;rw[dif_pos a];have h1:=mA a.choose_spec.choose_spec n
 grind[mA]
theorem AJ{step:σ->Option (Ex σ β ρ)}{s:σ}{r}:da step s=some r↔∃n,Wq step n s=some r:=by
 grind[da,HG]
theorem Ul{step:σ->Option (Ex σ β ρ)}{s s':σ}(h:step s=some (.go s')):da step s=da step s':=by
 apply Option.ext;intro r;simp only[AJ];constructor
 .rintro⟨n,hn⟩
  cases n with
  |zero=>grind[Wq]
  |succ n=>grind[Wq]
 .rintro⟨n,hn⟩;exact⟨n+1,by grind[Wq]⟩
theorem Ue{step:σ->Option (Ex σ β ρ)}{s:σ}{b:β}(h:step s=some (.brk b)):da step s=some (.inl b):=HG (n:=1) (by grind[Wq])
theorem nr{step:σ->Option (Ex σ β ρ)}{s:σ}{v:ρ}(h:step s=some (.ret v)):da step s=some (.inr v):=HG (n:=1) (by grind[Wq])
end
inductive Tells (N:Nat):St->St->Prop
 |refl (s:St):Tells N s s
 |step {s s' S:St} (ρ:Qq) (hk:gy ρ N=true) (h:Tell ρ s s') (t:Tells N s' S):Tells N s S
theorem Tells.one{s S:St}(ρ:Qq) (hk:gy ρ N=true) (h:Tell ρ s S):Tells N s S:=.step ρ hk h (.refl S)
theorem Tells.trans{a b c:St}(h:Tells N a b) (k:Tells N b c):Tells N a c:=by
 induction h with
 |refl=>exact k
 |step ρ hk h t d=>exact .step ρ hk h (d k)
theorem T.XH{c:C}{K:Exit->St->Prop}{s S:St}(h:Tells N s S) (hT:Tm.T P N c K S):Tm.T P N c K s:=by
 induction h with
 |refl=>omega
 |step ρ hk h t ih=>grind[T.tell]
def O4(N:Nat) (K:Exit->St->Prop):Prop:=∀s S,Tells N s S->K .normal S->K .normal s
theorem stb_S{b:C}{K:Exit->St->Prop}:O4 N (KS P N b K):=λs S h k=>T.XH h k
theorem stb_B{id:Nat}{K:Exit->St->Prop}(h:O4 N K):O4 N (KB id K):=h
def KL{σ β ρ:Type}(N id:Nat) (K:Exit->St->Prop) (S:σ->St) (B:β->St) (z:Ex σ β ρ) (e:Exit) (s':St):Prop:=
 match e with
 |.normal=>match z with|.go x=>Tells N s' (S x)|_=>False
 |.exit j=>if j=id then(match z with|.brk b=>Tells N s' (B b)|_=>False)else K (.exit j) s'
 |e=>K e s'
section
variable {σ β ρ:Type} {id:Nat} {K:Exit->St->Prop} {S:σ->St} {B:β->St} {s':St}
theorem L4{x:σ}:KL N id K S B (.go x:Ex σ β ρ) .normal s'=Tells N s' (S x):=Naa rfl rfl
theorem o6{b:β}{j:Nat}:KL N id K S B (.brk b:Ex σ β ρ) (.exit j) s'=if j=id then Tells N s' (B b)else K (.exit j) s':=Naa rfl rfl
theorem r6{z:Ex σ β ρ}:KL N id K S B z .ret s'=K .ret s':=Naa rfl rfl
theorem q6{v:ρ}{j:Nat}:KL N id K S B (.ret v:Ex σ β ρ) (.exit j) s'=if j=id then False else K (.exit j) s':=Naa rfl rfl
theorem stb_L{z:Ex σ β ρ}:O4 N (KL N id K S B z):=by
 intro s S' h k
 cases z with
 |go x=>exact h.trans k
 |_=>exact k.elim
theorem T.da{x:C}{s:St}(S:σ->St) (B:β->St) (step:σ->Option (Ex σ β ρ)) (x0:σ) {y:β⊕ρ}(g:Tm.da step x0=some y) (m:Tells N s (S x0)) (f:O4 N K)
 (round:∀a z,step a=some z->(∀v,z=.ret v->y=.inr v)->Tm.T P N x (KL N id K S B z) (S a))
 (rest:∀b,y=.inl b->K .normal (B b)):Tm.T P N (.block id (.loop x)) K s:=by
 obtain⟨n,hn⟩:=AJ.1 g;clear g;refine T.block (T.D5 (X:=Nat×σ) (λp s=>Tells N s (S p.2)/\Wq step p.1 p.2=some y) (λp=>p.1) (n,x0) ⟨m,hn⟩ ?_);rintro⟨n,k⟩ s1 ⟨d,c⟩;refine T.XH d ?_
 cases n with
 |zero=>grind[Wq]
 |succ n=>
  cases i:step k with
  |none=>grind[Wq]
  |some z=>
   simp only[Wq,i]at c;refine(round k z i (λv hv=>by simp_all)).mono ?_;intro e s' h
   cases e with
   |normal=>
    cases z with
    |go o=>exact⟨(n,o),⟨by grind[L4],c⟩,Vad n⟩
    |_=>exact(h:False).elim
   |exit j=>
    simp only[KL]at h⊢;split
    .rename_i l;rw[if_pos l]at h
     cases z with
     |brk b=>exact f _ _ h (rest b (oab c).symm)
     |_=>simp_all
    simp_all
   |ret=>exact h
   |_=>exact h
end
def KJ{X R:Type}(N:Nat) (K:Exit->St->Prop) (S:X->St) (z:X⊕R) (e:Exit) (s':St):Prop:=
 match e with
 |.normal=>match z with|.inl x=>Tells N s' (S x)|.inr _=>False
 |e=>K e s'
section
variable {X R:Type} {K:Exit->St->Prop} {S:X->St} {s':St}
theorem ZI{x:X}:KJ N K S (.inl x:X⊕R) .normal s'=Tells N s' (S x):=Naa rfl rfl
theorem jY{z:X⊕R}{j:Nat}:KJ N K S z (.exit j) s'=K (.exit j) s':=Naa rfl rfl
theorem n6{z:X⊕R}:KJ N K S z .ret s'=K .ret s':=Naa rfl rfl
theorem stb_J{z:X⊕R}:O4 N (KJ N K S z):=by
 intro s S' h k
 cases z with
 |inl x=>exact h.trans k
 |inr _=>exact k.elim
theorem T.join{a b:C}{s:St}(S:X->St) (z:X⊕R) (ha:Tm.T P N a (KJ N K S z) s) (hb:∀x,z=.inl x->Tm.T P N b K (S x)):Tm.T P N (.seq a b) K s:=by
 refine T.seq (ha.mono ?_);intro e s' h
 cases e with
 |normal=>
  cases z with
  |inl x=>exact T.XH (by grind[ZI]) (hb x rfl)
  |inr _=>exact(h:False).elim
 |_=>exact h
end
variable {P:Program}
def Den(P:Program) (k:Nat) (ds:List D) (o:D):Prop:=∀m,CallT P k ds m λd m'=>d=o/\m'=m
theorem KH{m:List Ent}{l r:List D}(h:Sbs [] m l r):ia r=true:=by
 induction h<;>simp_all[ia,oa]
theorem Sbs.v{ρ:Qq}{m:List Ent}{x:Value}{l r:List D}(h:Sbs ρ m l r):Sbs ρ m (.v x::l) (.v x::r):=.same rfl h
theorem Sbs.free{ρ:Qq}{m:List Ent}:∀{l:List D},ia l=true->Sbs ρ m l l
 |[],_=>.nil
 |d::l,h=>by simp only[ia,Vaa]at h;exact .same h.1 (Sbs.free h.2)
theorem Sbs.app{ρ:Qq}{m:List Ent}{a b c d:List D}(f:Sbs ρ m a b) (h2:Sbs ρ m c d):Sbs ρ m (a++c) (b++d):=by
 induction f with
 |nil=>exact h2
 |same hf h e=>exact .same hf e
 |dead h e=>exact .dead e
 |nils h e=>exact .nils e
 |yD i hi h e=>exact .yD i hi e
 |agg ha h _ e=>exact .agg ha e
 |tup ha h _ e=>exact .tup ha e
 |sl ha h _ e=>exact .sl ha e
 |own hi h e=>exact .own hi e
 |ref hi h e=>exact .ref hi e
 |view hi h e=>exact .view hi e
 |mp hi h e=>exact .mp hi e
 |cf hm ho ha h _ e=>exact .cf hm ho ha e
 |fview hm ho hn ha h _ e=>exact .fview hm ho hn ha e
 |fref hm ho hx ha h _ e=>exact .fref hm ho hx ha e
 |pt ha h _ e=>exact .pt ha e
 |fn ha hc h _ _ e=>exact .fn ha hc e
 |ifc ha h _ e=>exact .ifc ha e
class Fr {α:Type} (e:α->D):Prop where
 h:∀x,oa (e x)=true
theorem dB{α:Type}{e:α->D}(h:∀x,oa (e x)=true):∀l:List α,ia (l.map e)=true
 |[]=>rfl
 |x::l=>by simp[ia,h x,dB h l]
theorem Fr.l{α:Type}{e:α->D} [Fr e] (l:List α):ia (l.map e)=true:=dB Fr.h l
theorem Fr.s{α:Type}{e:α->D} [Fr e] (S:Nat) (l:List α):oa (.sl S (l.map e))=true:=Fr.l (e:=e) l
theorem Ar{N:Nat}{s S:St}(h:Tells N s S):∀{G:Gh}{w:World}{a:Act},N<=G.n->Rel G w a s->∃G',Rel G' w a S/\StepN N G w s.m G' w S.m:=by
 induction h with
 |refl s=>grind[StepN.refl]
 |step ρ hk h t e=>
  intro G w a hN hr;obtain⟨b,h2⟩:=BA hk h hr;obtain⟨G',c,d⟩:=e h2.n b;exact⟨G',c,h2.trans d⟩
def lI(rs:List RV) (o:D) (e:Exit) (s:St):Prop:=
 match e with
 |.normal=>∃S,Tells 0 s S/\∃ds,Db S rs=some ds/\Sbs [] S.m [Bo ds] [o]
 |.ret=>∃S,Tells 0 s S/\∃ds,Db S rs=some ds/\Sbs [] S.m [Bo ds] [o]
 |_=>False
def BM(r:Option (List D)) (m:List Ent) (o:D):Prop:=∃ds,r=some ds/\Sbs [] m [Bo ds] [o]
def Fin(m:List Ent) (d o:D):Prop:=Sbs [] m [d] [o]
theorem um{ds:List D}{m:List Ent}{o:D}:BM (some ds) m o=Fin m (Bo ds) o:=by simp[BM,Fin]
@[congr] theorem N7{r a:Option (List D)} {m:List Ent} {o:D} (h:r=a):BM r m o=BM a m o:=by rw[h]
theorem Rn{rs:List RV}{o:D}{s:St}(h:BM (Db s rs) s.m o):lI rs o .ret s:=by
 obtain⟨ds,a,h2⟩:=h;exact⟨s,.refl s,ds,a,h2⟩
theorem stb_F{rs:List RV}{o:D}:O4 0 (lI rs o):=by
 rintro s S h ⟨S',a,h2⟩;exact⟨S',h.trans a,h2⟩
theorem dM{f:FuncId}{ds:List D}{o:D}(hf:ia ds=true) (h:CallT P f ds [] λd m'=>Sbs [] m' [d] [o]):Den P f ds o:=by
 refine λm=>⟨h.1,λG w vs hv hi=>?_⟩;have l:=h.2 (Gh.bare G.F) w vs (VsRel.free (G:=G) (G':=Gh.bare G.F) ⟨λ_ h=>h,λ_ _=>rfl⟩ hf hv) (jB hi.F (hi.gl.bare λ_ h=>h));refine l.mono ?_;rintro e w' ⟨v,d,m',G',rfl,g,hvd,c,q⟩;obtain⟨-,-,p⟩:=fJ hi q c (λ_ h=>h);obtain⟨g1,g2⟩:=p λ_ h=>h;refine⟨v,o,m,_,rfl,⟨rfl,rfl⟩,?_,g1,g2⟩;have k:=(g.rel c (λi j v h=>by grind)).1 [v] (by simp only[VsRel];simp_all);simp only[VsRel]at k;obtain⟨u,us,he,n,_⟩:=k;injection he with he _;subst he;have a:=KH g;simp only[ia,Yaa]at a;refine VRel.free (G:=fc G' m' []) (G':={ G with F:=λb=>G'.F b\/df G' m' b }) ⟨?_,λ_ _=>rfl⟩ a n;rintro b (hb|⟨hb,_⟩)
 all_goals simp_all
theorem Den.of{k:Nat}{F:Fun}{ds:List D}{o:D}(g:Kv P k=some F) (b:((P.funcs[k]?).map λfn=>fn.name == "runtime.NumGoroutine")=some false) (hf:ia ds=true)
 (h:T P 0 F.code (lI F.results o) ⟨ds++Oaa (F.ntmps-ds.length) .dead,[]⟩):Den P k ds o:=by
 refine dM hf (gk g b ?_);refine T.iU (h.mono ?_);have key:∀(e:Exit) (s:St),(∀s',Yz F.results (λd m'=>Sbs [] m' [d] [o]) e s' = ∃ds,Db s' F.results=some ds/\Sbs [] s'.m [Bo ds] [o])->(∃S,Tells 0 s S/\∃ds,Db S F.results=some ds/\Sbs [] S.m [Bo ds] [o])->GL 0 (Yz F.results λd m'=>Sbs [] m' [d] [o]) e s:=by
  intro e s he ⟨S,f,h2⟩ G w a hN hr;obtain⟨G',h3,h4⟩:=Ar f hN hr
  grind
 intro e s c
 cases e with
 |normal=>exact key _ s (λ_=>rfl) c
 |ret=>exact key _ s (λ_=>rfl) c
 |_=>exact(c:False).elim
theorem dA{k:Nat}{ds a:List D}{o:D}{m:List Ent}{f:D->List Ent->Prop}(h:Den P k a o) (r:Sbs [] m ds a) (c:flat o=true) (hf:f o m):ef P k ds m f:=by
 refine Vb (m1:=m) (d1:=o) ⟨(h []).1,λG w vs hv hi=>?_⟩ hf;have p:=(r.rel hi (λi j v h=>by grind)).1 vs hv;have n:VsRel (Gh.bare (fc G m []).F) w a vs:=VsRel.free (G:=fc G m []) ⟨λ_ h=>h,λ_ _=>rfl⟩ (KH r) p;have s:=(h []).2 _ w vs n (jB (λb hb=>by
  rcases hb with hb|⟨hb,_⟩
  .exact hi.F b hb
  .exact(df.lt hi hb).1) (hi.gl.bare λ_ h=>.inl h))
 refine s.mono ?_;rintro e w' ⟨v,d,m',G',rfl,⟨rfl,-⟩,q,g,l⟩;obtain⟨-,h2,-⟩:=fJ hi l g (λ_ h=>.inl h);exact⟨v,d,m,G,rfl,⟨rfl,rfl⟩,q.flat c,h2.1,h2.2⟩
def idx{α:Type}(l:List α) (i:Int):Option α:=if 0<=i then l[i.toNat]? else none
def app{α:Type}(b:Nat) (l r:List α):Option (List α):=if(l.length+r.length)*b<=2 ^ 47 then some (l++r)else none
def put{α:Type}(l:List α) (i:Int) (x:α):Option (List α):=if 0<=i/\i.toNat<l.length then some (l.set i.toNat x)else none
def Az{α:Type}(b:Nat) (x:α) (n c:Int):Option (List α):=if 0<=n/\n<=c/\c<=2 ^ 62/\c.toNat*b<=2 ^ 48 then some (Oaa n.toNat x)else none
def quo(k:IntKind) (a b:Int):Option Int:=if b=0 then none else some (ca k (a.tdiv b))
def rem(k:IntKind) (a b:Int):Option Int:=if b=0 then none else some (a.tmod b)
theorem yG{α:Type}{l:List α}{i:Int}{x:α}(h:idx l i=some x):0<=i/\l[i.toNat]?=some x:=by
 grind[idx]
theorem OT{α:Type}{b:Nat}{l r x:List α}(h:app b l r=some x):(l.length+r.length)*b<=140737488355328/\x=l++r:=by
 grind[app]
theorem lW{α:Type}{l x:List α}{i:Int}{y:α}(h:put l i y=some x):0<=i/\i.toNat<l.length/\x=l.set i.toNat y:=by
 grind[put]
theorem JV{α:Type}{b:Nat}{x:α}{n c:Int}{l:List α}(h:Az b x n c=some l):0<=n/\n<=c/\c<=4611686018427387904/\c.toNat*b<=281474976710656/\l=Oaa n.toNat x:=by
 grind[Az]
theorem Co{α β:Type}{o:Option α}{f:α->Option β}{r:β}(h:o.bind f=some r):∃x,o=some x/\f x=some r:=qac.1 h
variable {P:Program} {N:Nat}
def xD(f:D->D->Prop):List D->List D->Prop
 |[],[]=>True
 |d::l,e::r=>f d e/\xD f l r
 |_,_=>False
def Ax(f:D->D->Prop) (a b:List D):Prop:=(a=b/\ia a=true)\/xD f a b
def Sq(ρ:Qq) (m:List Ent):Nat->D->D->Prop
 |0,_,_=>False
 |n+1,d,e=>
  match e with
  |.dead=>True
  |.v y=>match d with|.v x=>x=y|_=>False
  |.agg b=>match d with|.agg a=>Ax (Sq ρ m n) a b|_=>False
  |.tup b=>match d with|.tup a=>Ax (Sq ρ m n) a b|_=>False
  |.sl S b=>
   match d with
   |.v x=>x=.slice none 0 0/\b=[]
   |.sl S' a=>S'=S/\Ax (Sq ρ m n) a b
   |.own j v=>
    match m[j]? with
    |some (.live S' g a)=>S'=S/\g=v/\qA ρ j=true/\Ax (Sq ρ m n) a b
    |_=>False
   |.view j v lo k=>
    match m[j]? with
    |some (.live S' g a)=>S'=S/\g=v/\qA ρ j=true/\lo+k<=a.length/\Ax (Sq ρ m n) ((a.drop lo).take k) b
    |_=>False
   |_=>False
  |.own i u=>
   match d with
   |.own j v=>ρ[i]?=some (some j,v,u)
   |.v x=>x=.slice none 0 0/\∃S,ρ[i]?=some (none,S,u)
   |_=>False
  |.ref i u x s=>match d with|.ref j v p s'=>ρ[i]?=some (some j,v,u)/\p=x/\s'=s|_=>False
  |.view i u lo k=>match d with|.view j v h o=>ρ[i]?=some (some j,v,u)/\h=lo/\o=k|_=>False
  |.pt e'=>
   match d with
   |.pt d'=>(d'=e'/\oa d'=true)\/Sq ρ m n d' e'
   |.ref j v x s=>
    match m[j]? with
    |some (.live _ g a)=>g=v/\s=0/\qA ρ j=true/\(match a[x]? with|some d'=>(d'=e'/\oa d'=true)\/Sq ρ m n d' e'|none=>False)
    |_=>False
   |_=>False
  |.fn f b d'=>match d with|.fn l a c=>l=f/\Ax (Sq ρ m n) a b/\Ax (Sq ρ m n) c d'|_=>False
  |.mp i=>match d with|.mp j=>ρ[i]?=some (some j,0,0)|_=>False
  |.ifc t e'=>match d with|.ifc t' d'=>t'=t/\((d'=e'/\oa d'=true)\/Sq ρ m n d' e')|_=>False
theorem gz{ρ:Qq}{m:List Ent}{f:D->D->Prop}(hf:∀d e l r,f d e->Sbs ρ m l r->Sbs ρ m (d::l) (e::r)):∀{a b:List D},xD f a b->Sbs ρ m a b
 |[],[],_=>.nil
 |d::l,e::r,h=>hf d e l r h.1 (gz hf h.2)
 |[],_::_,h=>h.elim
 |_::_,[],h=>h.elim
theorem nv{ρ:Qq}{m:List Ent}{f:D->D->Prop}(hf:∀d e l r,f d e->Sbs ρ m l r->Sbs ρ m (d::l) (e::r)) {a b:List D}(h:Ax f a b):Sbs ρ m a b:=by
 rcases h with⟨rfl,h⟩|h
 all_goals grind[Sbs.free,gz]
theorem Qw{ρ:Qq}{m:List Ent}:∀(n:Nat) (d e:D) (l r:List D),Sq ρ m n d e->Sbs ρ m l r->Sbs ρ m (d::l) (e::r)
 |0,d,e,l,r,h,_=>h.elim
 |n+1,d,e,l,r,h,c=>by
  have g:=Qw (ρ:=ρ) (m:=m) n;have one:∀d' e',((d'=e'/\oa d'=true)\/Sq ρ m n d' e')->Sbs ρ m [d'] [e']:=by
   rintro d' e' (⟨rfl,h⟩|h)
   .exact .same h .nil
   .exact g _ _ _ _ h .nil
  cases e with
  |dead=>exact .dead c
  |v y=>cases d<;>simp only[Sq]at h;subst h;exact .v c
  |agg b=>cases d<;>simp only[Sq]at h;exact .agg (nv g h) c
  |tup b=>cases d<;>simp only[Sq]at h;exact .tup (nv g h) c
  |sl S b=>
   cases d with
   |v x=>simp only[Sq]at h;obtain⟨rfl,rfl⟩:=h;exact .nils c
   |sl S' a=>simp only[Sq]at h;obtain⟨rfl,h⟩:=h;exact .sl (nv g h) c
   |own j v=>
    simp only[Sq]at h;split at h
    .rename_i S' o a hm;obtain⟨rfl,rfl,ho,h⟩:=h;exact .cf hm ho (nv g h) c
    simp_all
   |view j v lo k=>
    simp only[Sq]at h;split at h
    .rename_i S' o a hm;obtain⟨rfl,rfl,ho,hl,h⟩:=h;exact .fview hm ho hl (nv g h) c
    simp_all
   |_=>simp only[Sq]at h
  |own i u=>
   cases d with
   |own j v=>simp only[Sq]at h;exact .own h c
   |v x=>simp only[Sq]at h;obtain⟨rfl,S,h⟩:=h;exact .yD i h c
   |_=>simp only[Sq]at h
  |ref i u x s=>cases d<;>simp only[Sq]at h;obtain⟨h,rfl,rfl⟩:=h;exact .ref h c
  |view i u lo k=>cases d<;>simp only[Sq]at h;obtain⟨h,rfl,rfl⟩:=h;exact .view h c
  |pt e'=>
   cases d with
   |pt d'=>simp only[Sq]at h;exact .pt (one _ _ h) c
   |ref j v x s=>
    simp only[Sq]at h;split at h
    .rename_i S' o a hm;obtain⟨rfl,rfl,ho,h⟩:=h;split at h
     .rename_i d' hd;exact .fref hm ho hd (one _ _ h) c
     simp_all
    simp_all
   |_=>simp only[Sq]at h
  |fn f b d'=>cases d<;>simp only[Sq]at h;obtain⟨rfl,p,h2⟩:=h;exact .fn (nv g p) (nv g h2) c
  |mp i=>cases d<;>simp only[Sq]at h;exact .mp h c
  |ifc t e'=>cases d<;>simp only[Sq]at h;obtain⟨rfl,h⟩:=h;exact .ifc (one _ _ h) c
def wD(ρ:Qq) (m:List Ent):Qq->List Ent->Prop
 |[],[]=>True
 |(some j,v,u)::os,.live S c b::es=>u=c/\(match m[j]? with|some (.live S' d a)=>S'=S/\d=v/\Ax (Sq ρ m 9) a b|_=>False)/\wD ρ m os es
 |(none,S,u)::os,.live S' c b::es=>S=S'/\u=c/\b=[]/\wD ρ m os es
 |(some j,v,u)::os,.mp b::es=>v=0/\u=0/\(match m[j]? with|some (.mp a)=>a=b/\WY b=true|_=>False)/\wD ρ m os es
 |_,_=>False
theorem bF{ρ:Qq}{m:List Ent}:∀{os:Qq}{es:List Ent},wD ρ m os es->Ets ρ m os es
 |[],[],_=>.nil
 |(some j,v,u)::os,.live S d b::es,h=>by
  simp only[wD]at h;obtain⟨rfl,c,h2⟩:=h;split at c
  .rename_i S' v' a hm;obtain⟨rfl,rfl,c⟩:=c;exact .live hm (nv (Qw 9) c) (bF h2)
  simp_all
 |(none,S,u)::os,.live S' d b::es,h=>by
  simp only[wD]at h;obtain⟨rfl,rfl,rfl,h2⟩:=h;exact .new (bF h2)
 |[],_::_,h=>by simp[wD]at h
 |_::_,[],h=>by simp[wD]at h
 |(some j,v,u)::os,.mp b::es,h=>by
  simp only[wD]at h;obtain⟨rfl,rfl,c,h2⟩:=h;split at c
  .rename_i a hm;obtain⟨rfl,c⟩:=c;exact .mp hm c (bF h2)
  simp_all
 |(some j,v,u)::os,.gone::es,h=>by simp[wD]at h
 |(none,S,u)::os,.mp _::es,h=>by simp[wD]at h
 |(none,S,u)::os,.gone::es,h=>by simp[wD]at h
theorem Tells.q(ρ:Qq) {s S:St}(hk:gy ρ N=true) (a:(ρ.filterMap (·.1)).Nodup) (h:xD (Sq ρ s.m 9) s.t S.t/\wD ρ s.m ρ S.m):Tells N s S:=
 .one ρ hk ⟨gz (Qw 9) h.1,bF h.2,a⟩
section
variable {ρ:Qq} {m:List Ent} {n:Nat} {d e:D} {a b c l r:List D} {x y:Value} {S S' i j u v k lo q s:Nat}
theorem D3{f:D->D->Prop}:xD f [] []=True:=Naa rfl rfl
theorem mX{f:D->D->Prop}:xD f (d::l) (e::r)=(f d e/\xD f l r):=Naa rfl rfl
theorem Tg{f:D->D->Prop}(h:ia a=true):Ax f a a=True:=by simp[Ax,h]
theorem sqS_L{f:D->D->Prop}:Ax f (d::l) (e::r)=(((d::l=e::r)/\ia (d::l)=true)\/(f d e/\xD f l r)):=Naa rfl rfl
theorem G3{f:D->D->Prop}:Ax f [] []=True:=by simp[Ax,ia]
theorem H3:Sq ρ m (n+1) d .dead=True:=Naa rfl rfl
theorem sq_v:Sq ρ m (n+1) (.v x) (.v y)=(x=y):=Naa rfl rfl
theorem sq_agg:Sq ρ m (n+1) (.agg a) (.agg b)=Ax (Sq ρ m n) a b:=Naa rfl rfl
theorem sq_tup:Sq ρ m (n+1) (.tup a) (.tup b)=Ax (Sq ρ m n) a b:=Naa rfl rfl
theorem L3:Sq ρ m (n+1) (.v x) (.sl S b)=(x=.slice none 0 0/\b=[]):=Naa rfl rfl
theorem sq_sl:Sq ρ m (n+1) (.sl S' a) (.sl S b)=(S'=S/\Ax (Sq ρ m n) a b):=Naa rfl rfl
theorem K3:Sq ρ m (n+1) (.own j v) (.sl S b)=(match m[j]? with|some (.live S' c a)=>S'=S/\c=v/\qA ρ j=true/\Ax (Sq ρ m n) a b|_=>False):=Naa rfl rfl
theorem oX:Sq ρ m (n+1) (.view j v lo k) (.sl S b)=(match m[j]? with|some (.live S' c a)=>S'=S/\c=v/\qA ρ j=true/\lo+k<=a.length/\Ax (Sq ρ m n) ((a.drop lo).take k) b|_=>False):=Naa rfl rfl
theorem sq_own:Sq ρ m (n+1) (.own j v) (.own i u)=(ρ[i]?=some (some j,v,u)):=Naa rfl rfl
theorem nX:Sq ρ m (n+1) (.v x) (.own i u)=(x=.slice none 0 0/\∃S,ρ[i]?=some (none,S,u)):=Naa rfl rfl
theorem sq_ref:Sq ρ m (n+1) (.ref j v q s) (.ref i u k lo)=(ρ[i]?=some (some j,v,u)/\q=k/\s=lo):=Naa rfl rfl
theorem M3{a b:Nat}:Sq ρ m (n+1) (.view j v a b) (.view i u lo k)=(ρ[i]?=some (some j,v,u)/\a=lo/\b=k):=Naa rfl rfl
theorem sq_pt:Sq ρ m (n+1) (.pt d) (.pt e)=((d=e/\oa d=true)\/Sq ρ m n d e):=Naa rfl rfl
theorem J3:Sq ρ m (n+1) (.ref j v q s) (.pt e)=(match m[j]? with
 |some (.live _ b a)=>b=v/\s=0/\qA ρ j=true/\(match a[q]? with|some d'=>(d'=e/\oa d'=true)\/Sq ρ m n d' e|none=>False)
 |_=>False):=Naa rfl rfl
theorem sq_fn{f d:FuncId}{d':List D}:Sq ρ m (n+1) (.fn d a c) (.fn f b d')=(d=f/\Ax (Sq ρ m n) a b/\Ax (Sq ρ m n) c d'):=Naa rfl rfl
theorem R7:wD ρ m [] []=True:=Naa rfl rfl
theorem RY{os:Qq}{es:List Ent}{c:Nat}:wD ρ m ((some j,v,u)::os) (.live S c b::es)=(u=c/\(match m[j]? with|some (.live S' d a)=>S'=S/\d=v/\Ax (Sq ρ m 9) a b|_=>False)/\wD ρ m os es):=by simp only[wD]
theorem Q7{os:Qq}{es:List Ent}{a:Nat}:wD ρ m ((none,S,u)::os) (.live S' a b::es)=(S=S'/\u=a/\b=[]/\wD ρ m os es):=by simp only[wD]
theorem sq_mp:Sq ρ m (n+1) (.mp j) (.mp i)=(ρ[i]?=some (some j,0,0)):=Naa rfl rfl
theorem et_mp{os:Qq}{es:List Ent}{b:List (Value×D)}:wD ρ m ((some j,v,u)::os) (.mp b::es)=(v=0/\u=0/\(match m[j]? with|some (.mp a)=>a=b/\WY b=true|_=>False)/\wD ρ m os es):=by simp only[wD]
theorem XY:WY []=true:=Naa rfl rfl
theorem aW:qA [] j=true:=Naa rfl rfl
theorem zS{o:Option Nat×Nat×Nat}:qA (o::ρ) j=((match o.1 with|some k=>k !=j|none=>true)&&qA ρ j):=Naa rfl rfl
end
theorem sJ{m:List Ent}{d o:D}(h:Sq [] m 9 d o):Fin m d o:=Qw 9 d o [] [] h .nil
theorem JH{G:Gh}{w:World}{l r:List D}(h:Sbs [] [] l r):(∀us,VsRel G w l us->VsRel G w r us)/\(∀b S off,Ta G w b S l off->Ta G w b S r off):=by
 have both:∀{d e:D} {l r:List D},(∀u,VRel G w d u->VRel G w e u)->
  ((∀us,VsRel G w l us->VsRel G w r us)/\(∀b S off,Ta G w b S l off->Ta G w b S r off))->
  ((∀us,VsRel G w (d::l) us->VsRel G w (e::r) us)/\(∀b S off,Ta G w b S (d::l) off->Ta G w b S (e::r) off)):=by
  intro d e l r h1 h2;refine⟨λus hv=>?_,λb S off hv=>?_⟩
  .simp only[VsRel]at hv⊢
   grind
  .simp only[Ta]at hv⊢
   grind
 have first:∀{d e:D},(∀us,VsRel G w [d] us->VsRel G w [e] us)->∀u,VRel G w d u->VRel G w e u:=by
  intro d e h u hu;have:=h [u] (by simp only[VsRel];simp_all);simp only[VsRel]at this
  simp_all
 induction h with
 |nil=>simp
 |same hf h c=>exact both (λu hu=>hu) c
 |dead h c=>exact both (λu _=>by simp[VRel]) c
 |nils h c=>exact both (λu hu=>by simp only[VRel]at hu⊢;grind) c
 |agg ha h f c=>
  refine both (λu hu=>?_) c;simp only[VRel]at hu⊢
  grind
 |tup ha h f c=>
  refine both (λu hu=>?_) c;simp only[VRel]at hu⊢
  grind
 |sl ha h f c=>
  refine both (λu hu=>?_) c;simp only[VRel]at hu⊢;obtain⟨a,n,cap,rfl,hn,hc,g⟩:=hu;refine⟨a,n,cap,rfl,by rw[←ha.length];omega,hc,?_⟩;rcases g with rfl|⟨b,off,rfl,hF,hr⟩
  .exact .inl (gab ha.length.symm)
  grind
 |pt ha h f c=>
  refine both (λu hu=>?_) c;simp only[VRel]at hu⊢
  grind
 |fn ha hc h f ihc c=>
  refine both (λu hu=>?_) c;simp only[VRel]at hu⊢
  grind
 |ifc ha h f c=>
  refine both (λu hu=>?_) c;simp only[VRel]at hu⊢
  grind
 |yD i hi=>simp at hi
 |own hi=>simp at hi
 |ref hi=>simp at hi
 |view hi=>simp at hi
 |mp hi=>simp at hi
 |cf hm=>simp at hm
 |fview hm=>simp at hm
 |fref hm=>simp at hm
theorem ZE{k:Nat}{ds a:List D}{o:D}{m:List Ent}{f:D->List Ent->Prop}(h:Den P k a o) (hf:f o m) (b:xD (Sq [] [] 9) ds a):ef P k ds m f:=
 Vb (m1:=m) (d1:=o) ⟨(h m).1,λG w vs hv hi=>(h m).2 G w vs ((JH (gz (Qw 9) b)).1 vs hv) hi⟩ hf
theorem DF{k:Nat}{ds a:List D}{o:D}{m:List Ent}{f:D->List Ent->Prop}(h:Den P k a o) (hf:f o m) (b:flat o=true) (c:xD (Sq [] m 9) ds a):ef P k ds m f:=
 dA h (gz (Qw 9) c) b hf
section
variable {K:Exit->St->Prop} {s:St} {l:List RI} {a b:C} {c:Operand} {t:Bool} {id q:Nat}
theorem T.rg(h:kh P l (K .normal) s):Tm.T P N (.jL l) K s:=T.jL (Ys h)
theorem T.cd(ht:s.ev c=.v (.bool t)) (h:gP (t=true) (Tm.T P N a K s) (Tm.T P N b K s)):Tm.T P N (.cond c a b) K s:=
 T.cond ht (λe=>h.1 e) (λe=>h.2 (by grind))
theorem T.bk(h:Tm.T P N a (KB id K) s):Tm.T P N (.block id a) K s:=T.block (h.mono λe s' b=>by cases e<;>exact b)
theorem T.sr(h:kh P l (KS P N b K .normal) s):Tm.T P N (.seq (.jL l) b) K s:=T.Ez (T.rg h)
theorem gP.ite{p q Y N:Prop} [Decidable q] {α:Type}{A B:Option α}{r:α}(h:(if q then A else B)=some r) (a:p↔q) (d:q->A=some r->Y) (h2:¬q->B=some r->N):gP p Y N:=by
 by_cases c:q
 .rw[if_pos c]at h;exact⟨λ_=>d c h,λb=>(b (a.2 c)).elim⟩
 .rw[if_neg c]at h;exact⟨λb=>(c (a.1 b)).elim,λ_=>h2 c h⟩
end
def ds:Nat->List D->List D
 |0,l=>l
 |n+1,l=>.dead::ds n l
theorem gp{l:List D}:ds 0 l=l:=Naa rfl rfl
theorem Yn{n:Nat}{l:List D}:ds (n+1) l=.dead::ds n l:=Naa rfl rfl
variable {P:Program} {N:Nat}
def C5(ok:Bool) (z:D) (m:List Ent) (o:Option D):Option (D×List Ent):=
 match o with
 |some d=>some (if ok then .tup [d,.v (.bool true)]else d,m)
 |none=>some (if ok then .tup [z,.v (.bool false)]else z,m)
def mlk{β:Type}:List (Int×β)->Int->Option β
 |[],_=>none
 |(q,x)::l,k=>if k=q then some x else mlk l k
def em{β:Type}(e:β->D) (l:List (Int×β)):List (Value×D):=l.map λp=>(.int .i64 p.1,e p.2)
theorem rQ{β:Type}{e:β->D}{k:Int}:∀{l:List (Int×β)},Rz (.int .i64 k) (em e l)=(mlk l k).map e
 |[]=>Naa rfl rfl
 |(q,x)::l=>by
  have a:=rQ (e:=e) (k:=k) (l:=l);simp only[em]at a;simp only[em,xab,Rz,iy,mlk,beq_iff_eq,a];split<;>rfl
theorem I6{β:Type}{e:β->D}{l:List (Int×β)}:((em e l).all λq=>isKey 0 q.1)=true:=by
 simp[em,isKey]
theorem M7{β:Type}{e:β->D}:em e []=[]:=Naa rfl rfl
theorem L7{β:Type}{e:β->D}{l:List (Int×β)}:(em e l).length=l.length:=by simp[em]
theorem W7{β:Type}{e:β->D} [Fr e] {l:List (Int×β)}:WY (em e l)=true:=by
 simp only[WY,em,List.all_map,Nab];exact λx _=>Fr.h x.2
theorem tZ{k:Int}:isKey 0 (.int .i64 k)=true:=Naa rfl rfl
def tu(b:ByteArray) (i:Int):Option Int:=if h:0<=i/\i.toNat<b.size then some ((b[i.toNat]'h.2).toNat:Int)else none
def Yt:Nat->List D->Bool
 |0,[]=>true
 |n+1,_::l=>Yt n l
 |_,_=>false
theorem mr:∀{n:Nat}{l:List D},Yt n l=true↔l.length=n
 |0,[]=>by simp[Yt]
 |n+1,_::l=>by simp[Yt,mr (n:=n) (l:=l)]
 |0,_::_=>by simp[Yt]
 |_+1,[]=>by simp[Yt]
def Yx:Nat->Nat->List D->Bool
 |0,0,_=>true
 |0,n+1,_::l=>Yx 0 n l
 |o+1,n,_::l=>Yx o n l
 |_,_,[]=>false
theorem Zr:∀{o n:Nat}{l:List D},Yx o n l=true↔o+n<=l.length
 |0,0,l=>by simp[Yx]
 |0,n+1,_::l=>by simp[Yx,Zr (o:=0) (n:=n) (l:=l)]
 |o+1,n,_::l=>by simp[Yx,Zr (o:=o) (n:=n) (l:=l)];omega
 |0,n+1,[]=>by simp[Yx]
 |o+1,n,[]=>by simp[Yx]
theorem S9:Yt 0 []=true:=Naa rfl rfl
theorem AZ{n:Nat}{d:D}{l:List D}:Yt (n+1) (d::l)=Yt n l:=Naa rfl rfl
theorem h2_z{l:List D}:Yx 0 0 l=true:=by cases l<;>rfl
theorem h2_n{n:Nat}{d:D}{l:List D}:Yx 0 (n+1) (d::l)=Yx 0 n l:=Naa rfl rfl
theorem h2_o{o n:Nat}{d:D}{l:List D}:Yx (o+1) n (d::l)=Yx o n l:=by cases n<;>rfl
theorem q_mv:type_of% @fa.eq_1:=by intros;exact Naa rfl rfl
theorem zaa:type_of% @fa.eq_2:=by intros;exact Naa rfl rfl
theorem q_bin:type_of% @fa.eq_3:=by intros;exact Naa rfl rfl
theorem q_beq:type_of% @fa.eq_4:=by intros;exact Naa rfl rfl
theorem q_un:type_of% @fa.eq_5:=by intros;exact Naa rfl rfl
theorem taa:type_of% @fa.eq_6:=by intros;exact Naa rfl rfl
theorem M0:type_of% @fa.eq_7:=by intros;exact Naa rfl rfl
theorem q_box{s:St}{S:Nat}{x:Operand}:fa s (.box S x)=if(s.ev x).ok=true/\Yt S (s.ev x).cells=true then some (.ref s.m.length 0 0 0,s.m++[.live S 0 [s.ev x]])else none:=by simp only[mr,Zr];rfl
theorem N0:type_of% @fa.eq_9:=by intros;exact Naa rfl rfl
theorem nW:type_of% @fa.eq_10:=by intros;exact Naa rfl rfl
theorem vaa{s:St}{A:Bool}{n:Nat}{x:Operand}:fa s (.load A n x) =
 match s.ev x with
 |.pt d=>
  match A,d with
  |true,.agg l=>if Yt n l=true then some (d,s.m)else none
  |true,_=>none
  |false,.agg _=>none
  |false,d=>if d.ok=true then some (d,s.m)else none
 |.ref id Pa idx sub=>
  match s.m[id]? with
  |some (.live _ a l)=>if a=Pa then(l[idx]?).bind λd=>if d.ok=true then(part A n sub d.cells).map λr=>(r,s.m)else none else none
  |_=>none
 |_=>none:=by simp only[mr,Zr];rfl
theorem Z0{s:St}{n:Nat}{x:Operand}{y:Operand}:fa s (.store n x y) =
 match s.ev x with
 |.ref id Pa idx sub=>
  match s.m[id]? with
  |some (.live S a l)=>
   if a=Pa/\(s.ev y).ok=true/\Yt n (s.ev y).cells=true then
    (l[idx]?).bind λd=>if d.ok=true/\0<n/\Yx sub n d.cells=true then some (.dead,s.m.set id (.live S a (l.set idx (d.vf sub (s.ev y).cells))))else none
   else none
  |_=>none
 |_=>none:=by simp only[mr,Zr];rfl
theorem yaa:type_of% @fa.eq_13:=by intros;exact Naa rfl rfl
theorem Y0:type_of% @fa.eq_14:=by intros;exact Naa rfl rfl
theorem O0:type_of% @fa.eq_15:=by intros;exact Naa rfl rfl
theorem P0:type_of% @fa.eq_16:=by intros;exact Naa rfl rfl
theorem Q0:type_of% @fa.eq_17:=by intros;exact Naa rfl rfl
theorem L0:type_of% @fa.eq_18:=by intros;exact Naa rfl rfl
theorem S0:type_of% @fa.eq_19:=by intros;exact Naa rfl rfl
theorem DS:type_of% @fa.eq_20:=by intros;exact Naa rfl rfl
theorem q_len:type_of% @fa.eq_21:=by intros;exact Naa rfl rfl
theorem Baa:type_of% @fa.eq_22:=by intros;exact Naa rfl rfl
theorem mW:type_of% @fa.eq_23:=by intros;exact Naa rfl rfl
theorem ES:type_of% @fa.eq_24:=by intros;exact Naa rfl rfl
theorem oW:type_of% @fa.eq_25:=by intros;exact Naa rfl rfl
theorem uaa:type_of% @fa.eq_26:=by intros;exact Naa rfl rfl
theorem q_mm:type_of% @fa.eq_27:=by intros;exact Naa rfl rfl
theorem q_ceq:type_of% @fa.eq_28:=by intros;exact Naa rfl rfl
theorem Caa:type_of% @fa.eq_29:=by intros;exact Naa rfl rfl
theorem Aaa{s:St}{x i:Operand}:fa s (.tu x i)=(match s.ev x,s.ev i with
 |.v (.string b),.v (.int _ k)=>(tu b k).map λn=>(D.v (.int .u8 n),s.m)
 |_,_=>none):=by
 simp only[fa];generalize s.ev x=a;generalize s.ev i=c;split
 .rename_i b k' k;by_cases h:0<=k/\k.toNat<b.size<;>simp[tu,h]
 .rename_i hx;split
  .exact(hx _ _ _ rfl rfl).elim
  .rfl
theorem pW:type_of% @fa.eq_31:=by intros;exact Naa rfl rfl
theorem V0:type_of% @fa.eq_32:=by intros;exact Naa rfl rfl
theorem W0{s:St}{K:Nat}{ok:Bool}{z:D}{x:Operand}{k:Operand}:fa s (.mlook K ok z x k) =
 match s.ev k with
 |.v a=>
  if isKey K a=true then
   match s.ev x with
   |.v (.map none)=>some (if ok then .tup [z,.v (.bool false)]else z,s.m)
   |.mp id=>
    match s.m[id]? with
    |some (.mp es)=>
     if(es.all λe=>isKey K e.1)=true then
      C5 ok z s.m (Rz a es)
     else none
    |_=>none
   |_=>none
  else none
 |_=>none:=by
 simp only[fa,C5];rfl
theorem xaa:type_of% @fa.eq_34:=by intros;exact Naa rfl rfl
theorem waa:type_of% @fa.eq_35:=by intros;exact Naa rfl rfl
theorem A1:type_of% @fa.eq_36:=by intros;exact Naa rfl rfl
theorem U0:type_of% @fa.eq_37:=by intros;exact Naa rfl rfl
theorem GS:type_of% @fa.eq_38:=by intros;exact Naa rfl rfl
theorem q_clr:type_of% @fa.eq_39:=by intros;exact Naa rfl rfl
theorem saa:type_of% @fa.eq_40:=by intros;exact Naa rfl rfl
theorem X0:type_of% @fa.eq_41:=by intros;exact Naa rfl rfl
theorem T0:type_of% @fa.eq_42:=by intros;exact Naa rfl rfl
def gQ(p:Prop) (a:St->Prop) (s1:St) (b:St->Prop) (s2:St):Prop:=gP p (a s1) (b s2)
theorem gQ_T{a b:St->Prop}{s1 s2:St}:gQ True a s1 b s2=a s1:=gP_T
theorem gQ_F{b a:St->Prop}{s1 s2:St}:gQ False b s1 a s2=a s2:=gP_F
def gD(d:D) (b:Bool) (e:St->Prop) (s1:St) (a:St->Prop) (s2 s0:St):Prop:=
 match d with
 |.v (.bool c)=>gQ (c=b) e s1 a s2
 |.v _=>a s0
 |_=>False
theorem YY{c b:Bool}{a d:St->Prop}{s1 s2 s0:St}:gD (.v (.bool c)) b a s1 d s2 s0=gQ (c=b) a s1 d s2:=Naa rfl rfl
theorem ZY{b:Bool}{c a:St->Prop}{s1 s2 s0:St}:gD (.v (.tuple #[])) b c s1 a s2 s0=a s0:=Naa rfl rfl
theorem VU{b:Bool}{c a:St->Prop}{s1 s2 s0:St}:gD (.v undef) b c s1 a s2 s0=a s0:=Naa rfl rfl
section
variable {t:List D} {m:List Ent} {i:Nat} {b:Bool} {dst:Option Tmp} {l:List RI} {K:St->Prop} {ins:I} {k q:Nat} {args:List Operand}
theorem DT:kh P (.op dst (some (i,b)) ins::l) K ⟨t,m⟩=gD (t.getD i .dead) b (kh P (.op dst none ins::l) K) ⟨t.set i (.v (.bool b)),m⟩ (kh P l K) (St.put ⟨t.set i (.v (.bool (!b))),m⟩ dst (.v undef)) (St.put ⟨t,m⟩ dst (.v undef)):=by
 rw[ET];simp only[gate,gD,gQ,Cx,MP]
 cases h:t.getD i .dead with
 |v x=>cases x<;>simp[gP]<;>cases b<;>simp
 |_=>rfl
theorem YN:kh P (.call dst (some (i,b)) (.func k) args::l) K ⟨t,m⟩=gD (t.getD i .dead) b (kh P (.call dst none (.func k) args::l) K) ⟨t.set i (.v (.bool b)),m⟩ (kh P l K) (St.put ⟨t.set i (.v (.bool (!b))),m⟩ dst (.v undef)) (St.put ⟨t,m⟩ dst (.v undef)):=by
 rw[OL];simp only[gate,gD,gQ,Cx,xF]
 cases h:t.getD i .dead with
 |v x=>cases x<;>simp[gP]<;>cases b<;>simp
 |_=>rfl
theorem WU{t:List D}{i:Nat}{b c:Bool}(h:t.getD i .dead=.v (.bool c)) {Y N:List D->Prop}:gP (c=b) (Y t) (N t)=gP (c=b) (Y (t.set i (.v (.bool b)))) (N (t.set i (.v (.bool (!b))))):=by
 have a:=WB h (by simp);by_cases hc:c=b
 .subst hc;rw[a];simp[gP]
 .have:(!b)=c:=by cases b<;>cases c<;>simp_all
  rw[this,a];simp[gP,hc]
theorem ZN:kh P (.call dst none (.tmp i) args::l) K ⟨t,m⟩=(match t.getD i .dead with|.fn k first caps=>ef P k (first++args.map (St.ev ⟨t,m⟩)++caps) m (KO (kh P l K) ⟨t,m⟩ dst)|_=>False):=by
 simp only[kh,gate,St.ec,St.ev]
 first|done|(cases t.getD i .dead<;>rfl)
theorem eY:sw P (q+1) (.op dst (some (i,b)) ins::l) K ⟨t,m⟩=gD (t.getD i .dead) b (sw P (q+1) (.op dst none ins::l) K) ⟨t.set i (.v (.bool b)),m⟩ (sw P q l K) (St.put ⟨t.set i (.v (.bool (!b))),m⟩ dst (.v undef)) (St.put ⟨t,m⟩ dst (.v undef)):=by
 rw[fY];simp only[gate,gD,gQ,rT]
 cases h:t.getD i .dead with
 |v x=>
  cases x with
  |bool c=>exact WU h (Y:=λt=>Yp (fa ⟨t,m⟩ ins) (KO (sw P q l K) ⟨t,m⟩ dst)) (N:=λt=>sw P q l K (St.put ⟨t,m⟩ dst (.v undef)))
  |_=>cases b<;>simp[gP]
 |_=>rfl
theorem WQ:sw P (q+1) (.call dst (some (i,b)) (.func k) args::l) K ⟨t,m⟩=gD (t.getD i .dead) b (sw P (q+1) (.call dst none (.func k) args::l) K) ⟨t.set i (.v (.bool b)),m⟩ (sw P q l K) (St.put ⟨t.set i (.v (.bool (!b))),m⟩ dst (.v undef)) (St.put ⟨t,m⟩ dst (.v undef)):=by
 rw[WN];simp only[gate,gD,gQ,YI]
 cases h:t.getD i .dead with
 |v x=>
  cases x with
  |bool c=>exact WU h (Y:=λt=>hJ P k (args.map (St.ev ⟨t,m⟩)) (sw P q l K) ⟨t,m⟩ dst) (N:=λt=>sw P q l K (St.put ⟨t,m⟩ dst (.v undef)))
  |_=>cases b<;>simp[gP]
 |_=>rfl
end
section
variable {t:List D} {m m':List Ent} {i:Nat} {x:Value} {f:FuncId} {g:Nat} {b c:Bool} {d d':D} {k n:Nat} {R:St->Prop} {o:Operand} {s:St}
theorem st_tmp:St.ev ⟨t,m⟩ (.tmp i)=t.getD i .dead:=Naa rfl rfl
theorem pX:St.ev s (.const x)=.v x:=Naa rfl rfl
theorem O3:St.ev s (.func f)=.fn f [] []:=Naa rfl rfl
theorem CS:St.put ⟨t,m⟩ (some i) d=⟨t.set i d,m⟩:=Naa rfl rfl
theorem BS:St.put s none d=s:=Naa rfl rfl
theorem lY:KO R ⟨t,m⟩ (some i) d m'=R ⟨t.set i d,m'⟩:=Naa rfl rfl
theorem kY:KO R ⟨t,m⟩ none d m'=R ⟨t,m'⟩:=Naa rfl rfl
theorem YR:gate ⟨t,m⟩ (some (i,b))=(match t.getD i .dead with|.v (.bool c)=>some (some (c,b))|.v _=>some (some (!b,b))|_=>none):=Naa rfl rfl
theorem iW:Cx ⟨t,m⟩ (some (i,b)) c=(match t.getD i .dead with|.v (.bool _)=>⟨t.set i (.v (.bool c)),m⟩|_=>⟨t,m⟩):=Naa rfl rfl
theorem oR{l:List D}:D.cells (.agg l)=l:=Naa rfl rfl
theorem zY:D.cells (.v x)=[.v x]:=Naa rfl rfl
theorem eU{l:List D}:D.cells (.sl n l)=[.sl n l]:=Naa rfl rfl
theorem wC:D.cells (.own i k)=[.own i k]:=Naa rfl rfl
theorem kO{a b:Nat}:D.cells (.view i k a b)=[.view i k a b]:=Naa rfl rfl
theorem pR{a b:Nat}:D.cells (.ref i k a b)=[.ref i k a b]:=Naa rfl rfl
theorem dU:D.cells (.pt d)=[.pt d]:=Naa rfl rfl
theorem aU{a b:List D}:D.cells (.fn f a b)=[.fn f a b]:=Naa rfl rfl
theorem cU:D.cells (.mp i)=[.mp i]:=Naa rfl rfl
theorem kaa{l:List D}:D.ok (.agg l)=true:=Naa rfl rfl
theorem ok_v:D.ok (.v x)=one x:=Naa rfl rfl
theorem ok_sl{l:List D}:D.ok (.sl n l)=true:=Naa rfl rfl
theorem laa:D.ok (.own i k)=true:=Naa rfl rfl
theorem D0{a b:Nat}:D.ok (.view i k a b)=true:=Naa rfl rfl
theorem maa{a b:Nat}:D.ok (.ref i k a b)=true:=Naa rfl rfl
theorem ok_pt:D.ok (.pt d)=true:=Naa rfl rfl
theorem ok_fn{a b:List D}:D.ok (.fn f a b)=true:=Naa rfl rfl
theorem ok_mp:D.ok (.mp i)=true:=Naa rfl rfl
theorem E0{j:IntKind}{z:Int}:one (.int j z)=true:=Naa rfl rfl
theorem ZV:one (.bool b)=true:=Naa rfl rfl
theorem J0{z:ByteArray}:one (.string z)=true:=Naa rfl rfl
theorem naa{a b}:one (.slice none a b)=true:=Naa rfl rfl
theorem F0:one (.map none)=true:=Naa rfl rfl
theorem G0:one (.pointer none)=true:=Naa rfl rfl
theorem yZ:Yc m (.v (.slice none 0 0))=some 0:=Naa rfl rfl
theorem R9{l:List D}:Yc m (.sl n l)=some l.length:=Naa rfl rfl
theorem zZ:Yc m (.own i k)=(match m[i]? with|some (.live _ a l)=>if a=k then some l.length else none|_=>none):=Naa rfl rfl
theorem xV{a b:Nat}:Yc m (.view i k a b)=(match m[i]? with|some _=>some b|none=>none):=Naa rfl rfl
theorem BY:contents n m (.v (.slice none 0 0))=some []:=Naa rfl rfl
theorem n7{l:List D}:contents n m (.sl k l)=(if k=n then some l else none):=Naa rfl rfl
theorem CY:contents n m (.own i k)=(match m[i]? with|some (.live S' a l)=>if S'=n/\a=k then some l else none|_=>none):=Naa rfl rfl
theorem nU{a b:Nat}:contents n m (.view i k a b)=(match m[i]? with|some (.live S' c l)=>if S'=n/\c=k/\a+b<=l.length then some ((l.drop a).take b)else none|_=>none):=Naa rfl rfl
theorem qaa{l:List D}{off:Nat}:part true n off l=(if Yx off n l=true then some (.agg ((l.drop off).take n))else none):=by simp only[Zr];rfl
theorem paa{l:List D}{off:Nat}:part false n off l=l[off]?:=Naa rfl rfl
theorem y4{l r:List D}{a:Nat}:D.vf (.agg l) a r=.agg (Gp l a r):=Naa rfl rfl
theorem upd_v{r:List D}{a:Nat}:D.vf (.v x) a r=r.headD .dead:=Naa rfl rfl
theorem upd_sl{l r:List D}{a:Nat}:D.vf (.sl n l) a r=r.headD .dead:=Naa rfl rfl
theorem A4{r:List D}{a:Nat}:D.vf (.own i k) a r=r.headD .dead:=Naa rfl rfl
theorem upd_pt{r:List D}{a:Nat}:D.vf (.pt d) a r=r.headD .dead:=Naa rfl rfl
theorem B4{r:List D}{a b c:Nat}:D.vf (.ref i k b c) a r=r.headD .dead:=Naa rfl rfl
theorem head_cons{r:List D}{e:D}:(d::r).headD e=d:=Naa rfl rfl
theorem kX{l r:List D}:Gp (d::l) 0 (d'::r)=d'::Gp l 0 r:=by simp[Gp]
theorem lX{l r:List D}:Gp (d::l) (n+1) r=d::Gp l n r:=by simp[Gp,Nat.add_right_comm]
theorem BP{l:List D}:Gp l 0 []=l:=by simp[Gp]
theorem mR{l:List D}:Qs s [] l=some l:=Naa rfl rfl
theorem cO{l:List D}{off:Nat}{ps:List (Nat×Nat×Operand)}:Qs s ((off,n,o)::ps) l=(if(s.ev o).ok=true/\Yt n (s.ev o).cells=true/\Yx off n l=true then Qs s ps (Gp l off (s.ev o).cells)else none):=by simp only[mr,Zr];rfl
theorem wY{l:List D}:zc s n [] l=some l:=Naa rfl rfl
theorem RT{l:List D}{ps:List (Nat×Operand)}:zc s n ((i,o)::ps) l=(if(s.ev o).ok=true/\Yt n (s.ev o).cells=true/\Yx i 1 l=true then zc s n ps (l.set i (s.ev o))else none):=by simp only[mr,Zr];rfl
theorem PT:bound s n none=some n:=Naa rfl rfl
theorem QT:bound s n (some o)=(match s.ev o with|.v (.int _ n)=>if 0<=n then some n.toNat else none|_=>none):=Naa rfl rfl
theorem A3{lo hi:Nat}:bt n m (.v (.slice none 0 0)) lo hi=(if lo=0/\hi=0 then some (.v (.slice none 0 0))else none):=Naa rfl rfl
theorem sli_sl{lo hi:Nat}{l:List D}:bt n m (.sl k l) lo hi=(if k=n/\lo<=hi/\hi<=l.length then some (.sl n ((l.drop lo).take (hi-lo)))else none):=Naa rfl rfl
theorem B3{lo hi:Nat}:bt n m (.own i k) lo hi=(match m[i]? with|some (.live S' a l)=>if S'=n/\a=k/\lo<=hi/\hi<=l.length then some (.view i k lo (hi-lo))else none|_=>none):=Naa rfl rfl
theorem jX{lo hi a b:Nat}:bt n m (.view i k a b) lo hi=(match m[i]? with|some (.live S' c l)=>if S'=n/\c=k/\lo<=hi/\hi<=b/\a+b<=l.length then some (.view i k (a+lo) (hi-lo))else none|_=>none):=Naa rfl rfl
theorem EZ:leaves []=some []:=Naa rfl rfl
theorem BV{l:List D}:leaves (.v x::l)=(leaves l).map (x::·):=Naa rfl rfl
theorem OY{j k:IntKind}{a b:Int}:Ss 0 (.v (.int j a)) (.v (.int k b))=(if j=k then some (a==b)else none):=Naa rfl rfl
theorem QU{a b:Bool}:Ss 1 (.v (.bool a)) (.v (.bool b))=some (a==b):=Naa rfl rfl
theorem cA{a b:ByteArray}:(a.toList==b.toList)=decide (a=b):=by
 by_cases h:a=b
 .subst h;simp
 .rw[decide_eq_false h,beq_eq_false_iff_ne];exact λhe=>h (by cases a;cases b;simp only[ByteArray.toList_eq]at he;simpa using he)
theorem PY{a b:ByteArray}:Ss 2 (.v (.string a)) (.v (.string b))=some (decide (a=b)):=by
 rw[←cA];rfl
theorem str_eq{a b:ByteArray}:yg (binOp .eql 0 (.string a) (.string b))=some (.bool (decide (a=b))):=by
 rw[←cA];rfl
theorem str_ne{a b:ByteArray}:yg (binOp .neq 0 (.string a) (.string b))=some (.bool (!decide (a=b))):=by
 rw[←cA];rfl
theorem QY:td [] [] []=some true:=Naa rfl rfl
theorem RU{ks:List Nat}{xs ys:List D}{e:D}:td (k::ks) (d::xs) (e::ys)=(match Ss k d e,td ks xs ys with|some a,some b=>some (a&&b)|_,_=>none):=Naa rfl rfl
section
variable {j:IntKind} {a b:Int}
theorem O6:th .add j a j b=some (.int j (ca j (a+b))):=by simp[th]
theorem Y6:th .sub j a j b=some (.int j (ca j (a-b))):=by simp[th]
theorem U6:th .mul j a j b=some (.int j (ca j (a*b))):=by simp[th]
theorem P6:th .eql j a j b=some (.bool (a==b)):=by simp[th]
theorem V6:th .neq j a j b=some (.bool (a !=b)):=by simp[th]
theorem T6:th .lss j a j b=some (.bool (decide (a<b))):=by simp[th]
theorem S6:th .leq j a j b=some (.bool (decide (a<=b))):=by simp[th]
theorem R6:th .gtr j a j b=some (.bool (decide (b<a))):=by simp[th]
theorem Q6:th .geq j a j b=some (.bool (decide (b<=a))):=by simp[th]
theorem W6:th .quo j a j b=if b=0 then none else some (.int j (ca j (a.tdiv b))):=by
 by_cases h:b=0<;>simp[th,h]
theorem X6:th .rem j a j b=if b=0 then none else some (.int j (a.tmod b)):=by
 by_cases h:b=0<;>simp[th,h]
end
theorem bne_F{b:Bool}:(b !=false)=b:=by cases b<;>rfl
theorem bne_T{b:Bool}:(b !=true) = !b:=by cases b<;>rfl
theorem not_F{b:Bool}:((!b)=false)=(b=true):=by cases b<;>simp
theorem not_T{b:Bool}:((!b)=true)=(b=false):=by cases b<;>simp
theorem lu:Db s []=some []:=Naa rfl rfl
theorem nu{l:List RV}:Db ⟨t,m⟩ (.tmp i::l)=(match Db ⟨t,m⟩ l with|some ds=>some (t.getD i .dead::ds)|none=>none):=by
 simp only[Db,Hu];cases Db ⟨t,m⟩ l<;>rfl
theorem yr{l:List RV}:Db ⟨t,m⟩ (.cell b n i::l)=(match fa ⟨t,m⟩ (.load b n (.tmp i)),Db ⟨t,m⟩ l with|some (d,_),some ds=>some (d::ds)|_,_=>none):=by
 simp only[Db,Hu];cases fa ⟨t,m⟩ (.load b n (.tmp i))<;>cases Db ⟨t,m⟩ l<;>rfl
end
def zx:=(And.intro (And.intro (And.intro (And.intro (And.intro (And.intro (And.intro (And.intro (And.intro @L4 @o6) (And.intro @r6 @q6)) (And.intro (And.intro @ZI @jY) (And.intro @n6 @q_mv))) (And.intro (And.intro (And.intro @zaa @q_bin) (And.intro @q_beq @q_un)) (And.intro (And.intro @taa @M0) (And.intro @q_box @N0)))) (And.intro (And.intro (And.intro (And.intro @nW @vaa) (And.intro @Z0 @yaa)) (And.intro (And.intro @Y0 @O0) (And.intro @P0 @Q0))) (And.intro (And.intro (And.intro @L0 @S0) (And.intro @DS @q_len)) (And.intro (And.intro @Baa @mW) (And.intro @ES @oW))))) (And.intro (And.intro (And.intro (And.intro (And.intro @uaa @q_mm) (And.intro @q_ceq @Caa)) (And.intro (And.intro @Aaa @pW) (And.intro @V0 @W0))) (And.intro (And.intro (And.intro @xaa @waa) (And.intro @A1 @U0)) (And.intro (And.intro @GS @q_clr) (And.intro @saa @X0)))) (And.intro (And.intro (And.intro (And.intro @T0 @gQ_T) (And.intro @gQ_F @YY)) (And.intro (And.intro @ZY @VU) (And.intro @DT @YN))) (And.intro (And.intro (And.intro @ZN @eY) (And.intro @WQ @st_tmp)) (And.intro (And.intro @pX @O3) (And.intro @CS @BS)))))) (And.intro (And.intro (And.intro (And.intro (And.intro (And.intro @lY @kY) (And.intro @YR @iW)) (And.intro (And.intro @oR @zY) (And.intro @eU @wC))) (And.intro (And.intro (And.intro @kO @pR) (And.intro @dU @aU)) (And.intro (And.intro @cU @kaa) (And.intro @ok_v @ok_sl)))) (And.intro (And.intro (And.intro (And.intro @laa @D0) (And.intro @maa @ok_pt)) (And.intro (And.intro @ok_fn @ok_mp) (And.intro @E0 @ZV))) (And.intro (And.intro (And.intro @J0 @naa) (And.intro @F0 @G0)) (And.intro (And.intro @yZ @R9) (And.intro @zZ @xV))))) (And.intro (And.intro (And.intro (And.intro (And.intro @BY @n7) (And.intro @CY @nU)) (And.intro (And.intro @qaa @paa) (And.intro @y4 @upd_v))) (And.intro (And.intro (And.intro @upd_sl @A4) (And.intro @upd_pt @B4)) (And.intro (And.intro @head_cons @kX) (And.intro @lX @BP)))) (And.intro (And.intro (And.intro (And.intro @mR @cO) (And.intro @wY @RT)) (And.intro (And.intro @PT @QT) (And.intro @A3 @sli_sl))) (And.intro (And.intro (And.intro @B3 @jX) (And.intro @EZ @BV)) (And.intro (And.intro @OY @QU) (And.intro @PY @str_eq))))))) (And.intro (And.intro (And.intro (And.intro (And.intro (And.intro (And.intro @str_ne @QY) (And.intro @RU @O6)) (And.intro (And.intro @Y6 @U6) (And.intro @P6 @V6))) (And.intro (And.intro (And.intro @T6 @S6) (And.intro @R6 @Q6)) (And.intro (And.intro @W6 @X6) (And.intro @bne_F @bne_T)))) (And.intro (And.intro (And.intro (And.intro @not_F @not_T) (And.intro @lu @nu)) (And.intro (And.intro @yr @Kab.{0}) (And.intro @Wab.{0} @RZ))) (And.intro (And.intro (And.intro @IZ @MZ) (And.intro @false_and @and_false)) (And.intro (And.intro @true_or @or_true) (And.intro @or_self @false_or))))) (And.intro (And.intro (And.intro (And.intro (And.intro @or_false @YT) (And.intro @eq_self.{1} @Dq)) (And.intro (And.intro @gP_T @gP_F) (And.intro @bne_self_eq_false.{0} @bne_iff_ne.{0}))) (And.intro (And.intro (And.intro @bne_eq_false_iff_eq.{0} @Bool.false_eq_true) (And.intro @Bool.true_eq_false @false_implies)) (And.intro (And.intro @true_implies @implies_true.{1}) (And.intro @not_true_eq_false @not_false_eq_true)))) (And.intro (And.intro (And.intro (And.intro @beq_self_eq_true.{0} @CT) (And.intro @MP @xF)) (And.intro (And.intro @sT @rT) (And.intro @YI @YQ))) (And.intro (And.intro (And.intro @mY @u6) (And.intro @XQ @iY)) (And.intro (And.intro @l6 @MT) (And.intro @HZ @Option.bind_some.{0,0})))))) (And.intro (And.intro (And.intro (And.intro (And.intro (And.intro @Nat.mul_one @Int.toNat_natCast) (And.intro @Int.natCast_nonneg @LX)) (And.intro (And.intro @MX @KX) (And.intro @Nat.lt_add_one @Eae))) (And.intro (And.intro (And.intro @true_and @and_true) (And.intro @and_self @Bool.or_false)) (And.intro (And.intro @Bool.false_or @Bool.or_true) (And.intro @Bool.true_or @Bool.or_self)))) (And.intro (And.intro (And.intro (And.intro @cR @zab.{0}) (And.intro @Lab.{0} @nab.{0})) (And.intro (And.intro @Uab.{0} @sab.{0}) (And.intro @Xab.{0} @List.set_cons_succ.{0}))) (And.intro (And.intro (And.intro @List.set_cons_zero.{0} @xab.{0,0}) (And.intro @Tac.{0,0} @rac.{0,0})) (And.intro (And.intro @Option.map_none.{0,0} @N6) (And.intro @decide_true @cond_true.{1}))))) (And.intro (And.intro (And.intro (And.intro (And.intro @cond_false.{1} @if_true.{1}) (And.intro @if_false.{1} @decide_eq_true_eq)) (And.intro (And.intro @decide_eq_false_iff_not @Iab) (And.intro @Yaa @Nat.succ_ne_self))) (And.intro (And.intro (And.intro @Bool.not_true @Bool.not_false) (And.intro @G4 @decide_false)) (And.intro (And.intro @beq_iff_eq.{0} @beq_eq_false_iff_ne.{0}) (And.intro @ne_eq.{1} @eac)))) (And.intro (And.intro (And.intro (And.intro @Nat.add_zero @nac.{0,0}) (And.intro @dab @ite_true.{1})) (And.intro (And.intro @ite_false.{1} @vab.{0}) (And.intro @List.drop_succ_cons.{0} @lad.{0}))) (And.intro (And.intro (And.intro @List.take_succ_cons.{0} @List.take_zero.{0}) (And.intro @List.getElem?_map.{0,0} @List.length_append.{0})) (And.intro (And.intro @Dab @ead) (And.intro @cac.{0} @nad.{0})))))))) (And.intro (And.intro (And.intro (And.intro @rac.{0,0} @S9) (And.intro @AZ @h2_z)) (And.intro (And.intro @h2_n @h2_o) (And.intro @Vaa @gp))) (And.intro (And.intro (And.intro @Yn @um) (And.intro @rQ @I6)) (And.intro @tZ @L7))))
theorem F3{α:Type}{e:α->D} [Fr e] {f:D->D->Prop}{l:List α}:Ax f (l.map e) (l.map e)=True:=Tg (Fr.l l)
theorem nz_S{x:Nat}:(0=x+1)=False:=by simp
theorem nS_z{x:Nat}:(x+1=0)=False:=by simp
theorem nS_S{x y:Nat}:(x+1=y+1)=(x=y):=by simp
def zq:=(And.intro (And.intro (And.intro (And.intro (And.intro (And.intro @nz_S @nS_z) (And.intro @nS_S @F3)) (And.intro (And.intro @D3 @mX) (And.intro @sqS_L @G3))) (And.intro (And.intro (And.intro @H3 @sq_v) (And.intro @sq_agg @sq_tup)) (And.intro (And.intro @L3 @sq_sl) (And.intro @K3 @oX)))) (And.intro (And.intro (And.intro (And.intro @sq_own @nX) (And.intro @sq_ref @M3)) (And.intro (And.intro @sq_pt @J3) (And.intro @sq_fn @R7))) (And.intro (And.intro (And.intro @RY @Q7) (And.intro @aW @zS)) (And.intro (And.intro @gp @Yn) (And.intro @sq_mp @et_mp))))) (And.intro (And.intro (And.intro (And.intro (And.intro @XY @W7) (And.intro @M7 @cac.{0})) (And.intro (And.intro @nad.{0} @and_self) (And.intro @and_true @true_and))) (And.intro (And.intro (And.intro @or_true @true_or) (And.intro @eq_self.{1} @Kab.{0})) (And.intro (And.intro @Wab.{0} @wab.{0}) (And.intro @mab.{0,0} @Tac.{0,0})))) (And.intro (And.intro (And.intro (And.intro @xab.{0,0} @List.map_append.{0,0}) (And.intro @Uab.{0} @exists_eq'.{1})) (And.intro (And.intro @Yaa @Iab) (And.intro @bne_iff_ne.{0} @ne_eq.{1}))) (And.intro @not_false_eq_true @Vaa))))
def zs:=(And.intro (And.intro (And.intro @nab.{0} @Uab.{0}) (And.intro @sab.{0} @Xab.{0})) (And.intro (And.intro @eac @gp) @Yn))
variable {P:Program} {N:Nat}
class StbC (N:Nat) (K:Exit->St->Prop):Prop where
 h:O4 N K
instance {b:C}{K:Exit->St->Prop}:StbC N (KS P N b K):=⟨stb_S⟩
instance {id:Nat}{K:Exit->St->Prop} [h:StbC N K]:StbC N (KB id K):=⟨stb_B h.h⟩
instance {σ β ρ:Type}{id:Nat}{K:Exit->St->Prop}{S:σ->St}{B:β->St}{z:Ex σ β ρ}:StbC N (KL N id K S B z):=⟨stb_L⟩
instance {X R:Type}{K:Exit->St->Prop}{S:X->St}{z:X⊕R}:StbC N (KJ N K S z):=⟨stb_J⟩
instance {rs:List RV}{o:D}:StbC 0 (lI rs o):=⟨stb_F⟩
theorem T.zV{σ β ρ:Type}{id:Nat}{K:Exit->St->Prop} [c:StbC N K] {x:C}{s:St}(S:σ->St) (B:β->St) (step:σ->Option (Ex σ β ρ)) (x0:σ) {y:β⊕ρ}(e:Tm.da step x0=some y) (d:Tells N s (S x0))
 (round:∀a z,step a=some z->(∀v,z=.ret v->y=.inr v)->Tm.T P N x (KL N id K S B z) (S a))
 (rest:∀b,y=.inl b->K .normal (B b)):Tm.T P N (.block id (.loop x)) K s:=T.da S B step x0 e d c.h round rest
theorem JC:ia []=true:=rfl
theorem tE{α:Type}{e:α->D} [Fr e] {x:α}{l:List D}(h:ia l=true):ia (e x::l)=true:=by
 simp_all[ia,Fr.h]
theorem lT{k:FuncId}{q l:List D}(hc:ia q=true) (h:ia l=true):ia (.fn k [] q::l)=true:=by
 grind[ia,oa]
theorem WT{k:Nat}{d d':D}{q:List D}{o:D}{m:List Ent}{f:D->List Ent->Prop}(h:Den P k ([d']++q) o) (hq:ia q=true) (hf:f o m) (a:Sq [] [] 9 d d'):ef P k (d::q) m f:=
 Vb (m1:=m) (d1:=o) ⟨(h m).1,λG w vs hv hi=>(h m).2 G w vs ((JH (Qw 9 d d' q q a (Sbs.free hq))).1 vs hv) hi⟩ hf
theorem X5{rs:List RV}{o:D}{s:St}(h:BM (Db s rs) s.m o):lI rs o .normal s:=by
 obtain⟨ds,a,h2⟩:=h;exact⟨s,.refl s,ds,a,h2⟩
def wu{α:Type}(l:List α) (hi:Int):Option (List α):=if 0<=hi/\hi.toNat<=l.length then some (l.take hi.toNat)else none
def TE{α:Type}(l:List α) (lo:Int):Option (List α):=if 0<=lo/\lo.toNat<=l.length then some (l.drop lo.toNat)else none
section
variable {α:Type} {e:α->D} {l r x:List α} {i:Int} {y:α} {b:Nat}
theorem idx_f(h:idx l i=some y):0<=i/\l[i.toNat]?=some y:=yG h
theorem idx_o(h:idx l i=some y):0<=i/\l[i.toNat]?=some y/\i.toNat<l.length:=by
 obtain⟨h1,h2⟩:=yG h
 grind
theorem eJ(h:app b l r=some x):(l.length+r.length)*b<=2 ^ 47/\l.map e++r.map e=x.map e:=by
 obtain⟨h1,rfl⟩:=OT h
 simp_all
theorem kW(h:put l i y=some x):i.toNat<l.length/\(l.map e).set i.toNat (e y)=x.map e:=by
 obtain⟨h0,h1,rfl⟩:=lW h
 simp_all
theorem iN{n c:Int}(h:Az b y n c=some x):0<=n/\n<=c/\c<=2 ^ 62/\c.toNat*b<=2 ^ 48/\Oaa n.toNat (e y)=x.map e:=by
 obtain⟨h0,h1,h2,h3,rfl⟩:=JV h
 simp_all
theorem GP(h:wu l i=some x):0<=i/\i.toNat<=l.length/\((l.map e).drop 0).take (i.toNat-0)=x.map e:=by
 unfold wu at h;split at h
 .rename_i hc;obtain rfl:=oab h
  simp_all
 .cases h
theorem n4(h:wu l i=some x):0<=i/\i.toNat<=l.length/\(l.map e).take i.toNat=x.map e:=by
 obtain⟨h1,h2,h3⟩:=GP (e:=e) h
 simp_all
theorem rX(h:TE l i=some x):0<=i/\i.toNat<=l.length/\((l.map e).drop i.toNat).take (l.length-i.toNat)=x.map e:=by
 unfold TE at h;split at h
 .rename_i hc;obtain rfl:=oab h
  grind[List.map_drop,Yad]
 .cases h
theorem aQ(h:TE l i=some x):0<=i/\i.toNat<=l.length/\((l.map e).take l.length).drop i.toNat=x.map e:=by
 obtain⟨h1,h2,h3⟩:=rX (e:=e) h
 grind[Yad]
theorem subl_o(h:TE l i=some x):0<=i/\i.toNat<=l.length/\i.toNat+x.length<=l.length/\l.length-i.toNat=x.length/\((l.map e).drop i.toNat).take x.length=x.map e:=by
 obtain⟨h1,h2,a⟩:=rX (e:=e) h;have h4:l.length-i.toNat=x.length:=by
  have:=congrArg List.length a
  grind
 grind
theorem quo_f{k:IntKind}{a c d:Int}(h:quo k a c=some d):¬c=0/\ca k (a.tdiv c)=d:=by
 grind[quo]
theorem M5{k:IntKind}{a c d:Int}(h:rem k a c=some d):¬c=0/\a.tmod c=d:=by
 grind[rem]
end
theorem CC:∀n:Nat,Tm.ds n []=Oaa n .dead
 |0=>rfl
 |n+1=>by rw[Yn,CC n];rfl
theorem Den.at{k:Nat}{F:Fun}{l:List D}{o:D}(n:Nat) (hF:Kv P k=some F) (hname:((P.funcs[k]?).map λfn=>fn.name == "runtime.NumGoroutine")=some false) (hf:ia l=true)
 (hn:F.ntmps=l.length+n) (h:T P 0 F.code (lI F.results o) ⟨l++Tm.ds n [],[]⟩):Den P k l o:=by
 grind[Den.of,CC]
section
variable {P:Program} {N:Nat} {ops:Array Oper} {Q:Exit->Act->World->Prop} {K:St->Prop} {rl:List RI} {q:Nat} {ps:List (List Nat)}
def yS(R:List (List Nat)->St->Prop) (fp:List (List Nat)) (p:List Nat) (dst:Option Tmp) (i:I) (s:St):Prop:=
 FA fp (Im s (.op dst none i)) p=true/\Ff s i=true/\Yp (fa s i) (KO (R (fp++[Im s (.op dst none i)])) s dst)
def skY(R:List (List Nat)->St->Prop) (fp:List (List Nat)) (p:List Nat) (dst:Option Tmp) (i:I) (s:St):Prop:=
 FA fp (Im s (.op dst none i)) p=true/\R (fp++[Im s (.op dst none i)]) (s.put dst (.v undef))
def Uw(P:Program) (k:FuncId) (ds:List D) (ids:List Nat) (R:St->Prop) (s:St) (dst:Option Tmp):Prop:=
 ∃d,((∀id∈ids,id<s.m.length)/\∀m,(∀id∈ids,m[id]?=s.m[id]?)->CallT P k ds m λd' m'=>d'=d/\m'=m)/\R (s.put dst d)
def gU(P:Program) (R:List (List Nat)->St->Prop) (fp:List (List Nat)) (p:List Nat) (k:FuncId) (dst:Option Tmp) (args:List Operand) (s:St):Prop:=FA fp (Jb s args) p=true/\Uw P k (args.map s.ev) (Jb s args) (R (fp++[Jb s args])) s dst
def cnY(R:List (List Nat)->St->Prop) (fp:List (List Nat)) (p:List Nat) (dst:Option Tmp) (args:List Operand) (s:St):Prop:=FA fp (Jb s args) p=true/\R (fp++[Jb s args]) (s.put dst (.v undef))
def qv(P:Program):List (List Nat)->Nat->List RI->(St->Prop)->List (List Nat)->St->Prop
 |_,0,l,K,_,s=>kh P l K s
 |_,_+1,[],_,_,_=>False
 |ps,q+1,.op dst none i::l,K,fp,s=>yS (qv P ps.tail q l K) fp (ps.headD []) dst i s
 |ps,q+1,.op dst (some (t,b)) i::l,K,fp,s=>
  gD (s.t.getD t .dead) b (yS (qv P ps.tail q l K) fp (ps.headD []) dst i) ⟨s.t.set t (.v (.bool b)),s.m⟩ (skY (qv P ps.tail q l K) fp (ps.headD []) dst i) ⟨s.t.set t (.v (.bool (!b))),s.m⟩ s
 |ps,q+1,.call dst none (.func k) args::l,K,fp,s=>gU P (qv P ps.tail q l K) fp (ps.headD []) k dst args s
 |ps,q+1,.call dst (some (t,b)) (.func k) args::l,K,fp,s=>
  gD (s.t.getD t .dead) b (gU P (qv P ps.tail q l K) fp (ps.headD []) k dst args) ⟨s.t.set t (.v (.bool b)),s.m⟩ (cnY (qv P ps.tail q l K) fp (ps.headD []) dst args) ⟨s.t.set t (.v (.bool (!b))),s.m⟩ s
 |_,_+1,.call ..::_,_,_,_=>False
theorem pG{d:D}{b:Bool}{t:List D}{i:Nat}(hd:t.getD i .dead=d) {m:List Ent}{a e:St->Prop}(h:gD d b a ⟨t.set i (.v (.bool b)),m⟩ e ⟨t.set i (.v (.bool (!b))),m⟩ ⟨t,m⟩) :
 match gate ⟨t,m⟩ (some (i,b))with
 |none=>False
 |some none=>True
 |some (some (c,b))=>(c=b->a ⟨t,m⟩)/\(c≠b->e ⟨t,m⟩):=by
 simp only[gate,hd];unfold gD at h
 cases d with
 |v x=>
  cases x with
  |bool c=>
   simp only[gQ]at h⊢;have f:=WB hd (by simp);refine⟨λhc=>?_,λhc=>?_⟩
   .subst hc;have:=h.1 rfl
    simp_all
   .have:=h.2 hc;rwa [show(!b)=c by cases b<;>cases c<;>simp_all,f]at this
  |_=>cases b<;>simpa using h
 |_=>exact h
theorem ID:∀{q:Nat}{l:List RI}{ps:List (List Nat)}{fp:List (List Nat)}{s:St},qv P ps q l K fp s->tx P ps fp q l K s
 |0,l,ps,fp,s,h=>by simp only[qv]at h;simp only[tx];exact Ys h
 |q+1,[],ps,fp,s,h=>by simp only[qv]at h
 |q+1,.op dst none i::l,ps,fp,s,h=>by
  simp only[qv,yS]at h;obtain⟨e,a,h2⟩:=h;simp only[tx,gate];obtain⟨d,m',j,m⟩:=(Ol _ _).1 h2;exact⟨e,d,m',a,j,ID m⟩
 |q+1,.op dst (some (t,b)) i::l,ps,fp,⟨st,sm⟩,h=>by
  simp only[qv]at h;have h:=pG rfl h;have f:∀s,Im s (.op dst (some (t,b)) i)=Im s (.op dst none i):=λ_=>rfl;simp only[tx];rw[f];split at h
  .simp_all
  .grind[gate]
  .rename_i c g o;simp only[o];by_cases hc:c=g
   .obtain⟨e,a,h2⟩:=h.1 hc;obtain⟨d,m',j,m⟩:=(Ol _ _).1 h2;exact⟨e,λ_=>⟨d,m',a,j,ID m⟩,λhn=>(hn hc).elim⟩
   .obtain⟨e,h2⟩:=h.2 hc;exact⟨e,λhn=>(hc hn).elim,λ_=>ID h2⟩
 |q+1,.call dst none (.func k) args::l,ps,fp,s,h=>by
  simp only[qv,gU,Uw]at h;obtain⟨a,d,e,h2⟩:=h;simp only[tx,gate];exact⟨a,d,by simp_all,ID h2⟩
 |q+1,.call dst (some (t,b)) (.func k) args::l,ps,fp,⟨st,sm⟩,h=>by
  simp only[qv]at h;have h:=pG rfl h;simp only[tx];have n:St.cv ⟨st,sm⟩ (.func k)=.fn k [] []:=rfl;simp only[n];split at h
  .simp_all
  .grind[gate]
  .rename_i c g o;simp only[o];by_cases hc:c=g
   .obtain⟨a,d,e,h2⟩:=h.1 hc;exact⟨a,λ_=>⟨d,by simp_all,ID h2⟩,λhn=>(hn hc).elim⟩
   .obtain⟨a,h2⟩:=h.2 hc;exact⟨a,λhn=>(hc hn).elim,λ_=>ID h2⟩
 |q+1,.call dst none (.tmp _) args::l,ps,fp,s,h=>by simp only[qv]at h
 |q+1,.call dst none (.const _) args::l,ps,fp,s,h=>by simp only[qv]at h
 |q+1,.call dst none (.global _) args::l,ps,fp,s,h=>by simp only[qv]at h
 |q+1,.call dst (some _) (.tmp _) args::l,ps,fp,s,h=>by simp only[qv]at h
 |q+1,.call dst (some _) (.const _) args::l,ps,fp,s,h=>by simp only[qv]at h
 |q+1,.call dst (some _) (.global _) args::l,ps,fp,s,h=>by simp only[qv]at h
 |q+1,.call dst none (.meth _ _) args::l,ps,fp,s,h=>by simp only[qv]at h
 |q+1,.call dst (some _) (.meth _ _) args::l,ps,fp,s,h=>by simp only[qv]at h
theorem T.dy(hm:P.follows .mixedOrders=true) {l:List RI}{K:Exit->St->Prop}{s:St}(h:qv P [] q l (K .normal) [] s):T P N (.draw q l) K s:=
 T.drawO hm (Ou (ID h))
theorem T.ay(hm:P.follows .mixedOrders=true) {cuts:List Nat}{bs:List (List Nat)}{l:List RI}{K:Exit->St->Prop}{s:St}(ps:List (List Nat)) (a:Pu bs l q ps []=true) (h:qv P ps q l (K .normal) [] s):T P N (.any cuts q bs l) K s:=
 T.any2 hm ps a (ID h)
end
section
variable {P:Program}
theorem cK{k:Nat}{ds a:List D}{o:D}{R:St->Prop}{s:St}{dst:Option Tmp}(h:Den P k a o) (hf:R (s.put dst o)) (b:xD (Sq [] [] 9) ds a):Uw P k ds [] R s dst:=
 ⟨o,⟨λ_ h=>(by cases h),λm _=>⟨(h m).1,λG w vs hv hi=>(h m).2 G w vs ((JH (gz (Qw 9) b)).1 vs hv) hi⟩⟩,hf⟩
def Lq(m:List Ent) (d e:D):Prop:=
 match d,e with
 |.own j v,.sl S b=>match m[j]? with|some (.live S' c a)=>S'=S/\c=v/\a=b/\ia a=true|_=>False
 |.view j v lo n,.sl S b=>match m[j]? with|some (.live S' c a)=>S'=S/\c=v/\lo+n<=a.length/\(a.drop lo).take n=b/\ia b=true|_=>False
 |.ref j v x s,.pt e=>match m[j]? with|some (.live _ c a)=>c=v/\s=0/\a[x]?=some e/\oa e=true|_=>False
 |d,e=>Sq [] [] 9 d e
theorem sbs_up{l r:List D}(h:Sbs [] [] l r) (m:List Ent):Sbs [] m l r:=by
 induction h with
 |nil=>exact .nil
 |same hf h b=>exact .same hf b
 |dead h b=>exact .dead b
 |nils h b=>exact .nils b
 |agg ha h a b=>exact .agg a b
 |tup ha h a b=>exact .tup a b
 |sl ha h a b=>exact .sl a b
 |pt ha h a b=>exact .pt a b
 |fn ha hc h a c b=>exact .fn a c b
 |ifc ha h a b=>exact .ifc a b
 |yD i hi=>simp at hi
 |own hi=>simp at hi
 |ref hi=>simp at hi
 |view hi=>simp at hi
 |mp hi=>simp at hi
 |cf hm=>simp at hm
 |fview hm=>simp at hm
 |fref hm=>simp at hm
theorem X9{m m':List Ent}{ids:List Nat}(hm:∀id∈ids,m'[id]?=m[id]?) {d e:D}{l r:List D}(h:Lq m d e) (c:(match Xd d with|some j=>ids.contains j|none=>true)=true) (f:Sbs [] m' l r):Sbs [] m' (d::l) (e::r):=by
 unfold Lq at h;split at h
 .rename_i j v S b;simp only[Xd,Cab]at c;split at h
  .rename_i S' i a g;obtain⟨rfl,rfl,rfl,hf⟩:=h;exact .cf (by simp_all) rfl (Sbs.free hf) f
  simp_all
 .rename_i j v lo n S b;simp only[Xd,Cab]at c;split at h
  .rename_i S' i a g;obtain⟨rfl,rfl,hn,rfl,hf⟩:=h;exact .fview (by simp_all) rfl hn (Sbs.free hf) f
  simp_all
 .rename_i j v x s e;simp only[Xd,Cab]at c;split at h
  .rename_i S' i a g;obtain⟨rfl,rfl,hx,hf⟩:=h;exact .fref (by rw[hm j c];omega) rfl hx (.same hf .nil) f
  simp_all
 .have k:=sbs_up (Qw 9 d e [] [] h .nil) m';exact Sbs.app (a:=[d]) (b:=[e]) k f
def lE(ids:List Nat) (ds:List D):Bool:=ds.all λd=>match Xd d with|some j=>ids.contains j|none=>true
theorem jF{m m':List Ent}{ids:List Nat}(hm:∀id∈ids,m'[id]?=m[id]?):∀{a b:List D},xD (Lq m) a b->lE ids a=true->Sbs [] m' a b
 |[],[],_,_=>.nil
 |d::l,e::r,h,ht=>by
  simp only[lE,lac,Vaa]at ht;exact X9 hm h.1 ht.1 (jF hm h.2 ht.2)
 |[],_::_,h,_=>h.elim
 |_::_,[],h,_=>h.elim
theorem CF{k:Nat}{ids:List Nat}{ds a:List D}{o:D}{R:St->Prop}{s:St}{dst:Option Tmp}(h:Den P k a o) (hf:R (s.put dst o)) (b:flat o=true) (hi:(ids.all λi=>decide (i<s.m.length))=true) (ht:lE ids ds=true) (c:xD (Lq s.m) ds a):Uw P k ds ids R s dst:=by
 refine⟨o,⟨λid hid=>?_,λm hm=>?_⟩,hf⟩
 .simp_all
 .exact dA h (jF hm c ht) b ⟨rfl,rfl⟩
variable {m:List Ent} {S x y lo n s:Nat} {b:List D} {e:D}
theorem V9:Lq m (.own x y) (.sl S b)=(match m[x]? with|some (.live S' c a)=>S'=S/\c=y/\a=b/\ia a=true|_=>False):=Naa rfl rfl
theorem CZ:Lq m (.view x y lo n) (.sl S b)=(match m[x]? with|some (.live S' c a)=>S'=S/\c=y/\lo+n<=a.length/\(a.drop lo).take n=b/\ia b=true|_=>False):=Naa rfl rfl
theorem W9{z:Nat}:Lq m (.ref x y z s) (.pt e)=(match m[x]? with|some (.live _ b a)=>b=y/\s=0/\a[z]?=some e/\oa e=true|_=>False):=Naa rfl rfl
theorem lq_v{z:Value}:Lq m (.v z) e=Sq [] [] 9 (.v z) e:=Naa rfl rfl
theorem T9{z:List D}:Lq m (.agg z) e=Sq [] [] 9 (.agg z) e:=Naa rfl rfl
theorem lq_sl{z:List D}:Lq m (.sl S z) e=Sq [] [] 9 (.sl S z) e:=Naa rfl rfl
theorem lq_pt{z:D}:Lq m (.pt z) e=Sq [] [] 9 (.pt z) e:=Naa rfl rfl
theorem lq_fr{α:Type}{f:α->D} [Fr f] {l:List α}:ia (l.map f)=true:=Fr.l l
theorem U9{α:Type}{f:α->D}{l:List α}:(l.map f).length=l.length:=nac f
end
variable {P:Program}
theorem rd_mv{s:St}{d:Option Tmp}{g:Option (Tmp×Bool)}{a:Operand}:Im s (.op d g (.mv a))=[]:=Naa rfl rfl
theorem sb_mv{s:St}{a:Operand}:Ff s (.mv a)=true:=Naa rfl rfl
theorem P1{s:St}{d:Option Tmp}{g:Option (Tmp×Bool)}{a:Operand}{b:Operand}{c:Operand}:Im s (.op d g (.pick a b c))=[]:=Naa rfl rfl
theorem U2{s:St}{a:Operand}{b:Operand}{c:Operand}:Ff s (.pick a b c)=true:=Naa rfl rfl
theorem Eaa{s:St}{d:Option Tmp}{g:Option (Tmp×Bool)}{a:BinOp}{b:Operand}{c:Operand}:Im s (.op d g (.bin a b c))=[]:=Naa rfl rfl
theorem sb_bin{s:St}{a:BinOp}{b:Operand}{c:Operand}:Ff s (.bin a b c)=true:=Naa rfl rfl
theorem Daa{s:St}{d:Option Tmp}{g:Option (Tmp×Bool)}{a:Bool}{b:Operand}{c:Operand}:Im s (.op d g (.beq a b c))=[]:=Naa rfl rfl
theorem sb_beq{s:St}{a:Bool}{b:Operand}{c:Operand}:Ff s (.beq a b c)=true:=Naa rfl rfl
theorem rd_un{s:St}{d:Option Tmp}{g:Option (Tmp×Bool)}{a:UnOp}{b:Operand}:Im s (.op d g (.un a b))=[]:=Naa rfl rfl
theorem sb_un{s:St}{a:UnOp}{b:Operand}:Ff s (.un a b)=true:=Naa rfl rfl
theorem F1{s:St}{d:Option Tmp}{g:Option (Tmp×Bool)}{a:IntKind}{b:Operand}:Im s (.op d g (.conv a b))=[]:=Naa rfl rfl
theorem L2{s:St}{a:IntKind}{b:Operand}:Ff s (.conv a b)=true:=Naa rfl rfl
theorem sW{s:St}{d:Option Tmp}{g:Option (Tmp×Bool)}{a:Nat}{b:D}:Im s (.op d g (.alloc a b))=[]:=Naa rfl rfl
theorem PW{s:St}{a:Nat}{b:D}:Ff s (.alloc a b)=true:=Naa rfl rfl
theorem Faa{s:St}{d:Option Tmp}{g:Option (Tmp×Bool)}{a:Nat}{b:Operand}:Im s (.op d g (.box a b))=[]:=Naa rfl rfl
theorem sb_box{s:St}{a:Nat}{b:Operand}:Ff s (.box a b)=true:=Naa rfl rfl
theorem tW{s:St}{d:Option Tmp}{g:Option (Tmp×Bool)}{a:List D}{b:List (Nat×Nat×Operand)}:Im s (.op d g (.build a b))=[]:=Naa rfl rfl
theorem QW{s:St}{a:List D}{b:List (Nat×Nat×Operand)}:Ff s (.build a b)=true:=Naa rfl rfl
theorem IS{s:St}{d:Option Tmp}{g:Option (Tmp×Bool)}{a:Nat}{b:Nat}{c:D}{e:List (Nat×Operand)}:Im s (.op d g (.bslice a b c e))=[]:=Naa rfl rfl
theorem YS{s:St}{a:Nat}{b:Nat}{c:D}{d:List (Nat×Operand)}:Ff s (.bslice a b c d)=true:=Naa rfl rfl
theorem K1{s:St}{d:Option Tmp}{g:Option (Tmp×Bool)}{b:Bool}{c:Nat}{a:Operand}:Im s (.op d g (.load b c a))=ct s [a]:=Naa rfl rfl
theorem O2{s:St}{a:Bool}{b:Nat}{c:Operand}:Ff s (.load a b c)=true:=Naa rfl rfl
theorem FW{s:St}{d:Option Tmp}{g:Option (Tmp×Bool)}{b:Nat}{a:Operand}{c:Operand}:Im s (.op d g (.store b a c))=ct s [a]:=Naa rfl rfl
theorem cX{s:St}{a:Nat}{b:Operand}{c:Operand}:Ff s (.store a b c)=true:=Naa rfl rfl
theorem O1{s:St}{d:Option Tmp}{g:Option (Tmp×Bool)}{a:Operand}:Im s (.op d g (.nilc a))=[]:=Naa rfl rfl
theorem T2{s:St}{a:Operand}:Ff s (.nilc a)=true:=Naa rfl rfl
theorem EW{s:St}{d:Option Tmp}{g:Option (Tmp×Bool)}{b:Nat}{a:Operand}{c:Option Operand}{e:Option Operand}{f:Option Operand}:Im s (.op d g (.slice b a c e f))=ct s [a]:=Naa rfl rfl
theorem aX{s:St}{a:Nat}{b:Operand}{c:Option Operand}{d:Option Operand}{e:Option Operand}:Ff s (.slice a b c d e)=true:=Naa rfl rfl
theorem uW{s:St}{d:Option Tmp}{g:Option (Tmp×Bool)}{a:Bool}{b:Nat}{c:Nat}{e:Operand}:Im s (.op d g (.faddr a b c e))=[]:=Naa rfl rfl
theorem RW{s:St}{a:Bool}{b:Nat}{c:Nat}{d:Operand}:Ff s (.faddr a b c d)=true:=Naa rfl rfl
theorem vW{s:St}{d:Option Tmp}{g:Option (Tmp×Bool)}{a:Bool}{b:Nat}{c:Nat}{e:Operand}:Im s (.op d g (.field a b c e))=[]:=Naa rfl rfl
theorem SW{s:St}{a:Bool}{b:Nat}{c:Nat}{d:Operand}:Ff s (.field a b c d)=true:=Naa rfl rfl
theorem wW{s:St}{d:Option Tmp}{g:Option (Tmp×Bool)}{b:Nat}{a:Operand}{c:Operand}:Im s (.op d g (.iaddr b a c))=ct s [a]:=Naa rfl rfl
theorem TW{s:St}{a:Nat}{b:Operand}{c:Operand}:Ff s (.iaddr a b c)=true:=Naa rfl rfl
theorem rW{s:St}{d:Option Tmp}{g:Option (Tmp×Bool)}{a:Bool}{b:Nat}{c:Nat}{e:Operand}{f:Operand}:Im s (.op d g (.aaddr a b c e f))=[]:=Naa rfl rfl
theorem OW{s:St}{a:Bool}{b:Nat}{c:Nat}{d:Operand}{e:Operand}:Ff s (.aaddr a b c d e)=true:=Naa rfl rfl
theorem xW{s:St}{d:Option Tmp}{g:Option (Tmp×Bool)}{a:Bool}{b:Nat}{c:Nat}{e:Operand}{f:Operand}:Im s (.op d g (.index a b c e f))=[]:=Naa rfl rfl
theorem UW{s:St}{a:Bool}{b:Nat}{c:Nat}{d:Operand}{e:Operand}:Ff s (.index a b c d e)=true:=Naa rfl rfl
theorem eP{s:St}{d:Option Tmp}{g:Option (Tmp×Bool)}{a:Operand}{b:Nat}:Im s (.op d g (.extract a b))=[]:=Naa rfl rfl
theorem vP{s:St}{a:Operand}{b:Nat}:Ff s (.extract a b)=true:=Naa rfl rfl
theorem Iaa{s:St}{d:Option Tmp}{g:Option (Tmp×Bool)}{a:Operand}:Im s (.op d g (.len a))=ct s [a]:=Naa rfl rfl
theorem sb_len{s:St}{a:Operand}:Ff s (.len a)=true:=Naa rfl rfl
theorem T1{s:St}{d:Option Tmp}{g:Option (Tmp×Bool)}{a:Operand}:Im s (.op d g (.slen a))=[]:=Naa rfl rfl
theorem W2{s:St}{a:Operand}:Ff s (.slen a)=true:=Naa rfl rfl
theorem HS{s:St}{d:Option Tmp}{g:Option (Tmp×Bool)}{c:Nat}{e:Nat}{a:Operand}{b:Operand}:Im s (.op d g (.append c e a b))=ct s [a,b]:=Naa rfl rfl
theorem XS{s:St}{b:Nat}{c:Nat}{a:Operand}{d:Operand}:Ff s (.append b c a d)=(match s.ev a with|.own ..=>true|_=>false):=Naa rfl rfl
theorem fP{s:St}{d:Option Tmp}{g:Option (Tmp×Bool)}{a:Nat}{b:Nat}{c:D}{e:Operand}{f:Operand}:Im s (.op d g (.mkslice a b c e f))=[]:=Naa rfl rfl
theorem wP{s:St}{a:Nat}{b:Nat}{c:D}{d:Operand}{e:Operand}:Ff s (.mkslice a b c d e)=true:=Naa rfl rfl
theorem JS{s:St}{d:Option Tmp}{g:Option (Tmp×Bool)}{a:FuncId}{b:List Operand}{c:List Operand}:Im s (.op d g (.mkfunc a b c))=[]:=Naa rfl rfl
theorem ZS{s:St}{a:FuncId}{b:List Operand}{c:List Operand}:Ff s (.mkfunc a b c)=true:=Naa rfl rfl
theorem J1{s:St}{d:Option Tmp}{g:Option (Tmp×Bool)}  : Im s (.op d g (.fail))=[]:=Naa rfl rfl
theorem N2{s:St}  : Ff s (.fail)=true:=Naa rfl rfl
theorem rd_mm{s:St}{d:Option Tmp}{g:Option (Tmp×Bool)}{a:Bool}{b:List Operand}:Im s (.op d g (.mm a b))=[]:=Naa rfl rfl
theorem sb_mm{s:St}{a:Bool}{b:List Operand}:Ff s (.mm a b)=true:=Naa rfl rfl
theorem Gaa{s:St}{d:Option Tmp}{g:Option (Tmp×Bool)}{a:Bool}{b:List Nat}{c:Operand}{e:Operand}:Im s (.op d g (.ceq a b c e))=[]:=Naa rfl rfl
theorem sb_ceq{s:St}{a:Bool}{b:List Nat}{c:Operand}{d:Operand}:Ff s (.ceq a b c d)=true:=Naa rfl rfl
theorem U1{s:St}{d:Option Tmp}{g:Option (Tmp×Bool)}{a:Nat}{b:Operand}:Im s (.op d g (.strb a b))=[]:=Naa rfl rfl
theorem X2{s:St}{a:Nat}{b:Operand}:Ff s (.strb a b)=true:=Naa rfl rfl
theorem Q1{s:St}{d:Option Tmp}{g:Option (Tmp×Bool)}{a:Operand}{b:Operand}:Im s (.op d g (.tu a b))=[]:=Naa rfl rfl
theorem V2{s:St}{a:Operand}{b:Operand}:Ff s (.tu a b)=true:=Naa rfl rfl
theorem LS{s:St}{d:Option Tmp}{g:Option (Tmp×Bool)}{a:Operand}{b:Option Operand}{c:Option Operand}:Im s (.op d g (.sslice a b c))=[]:=Naa rfl rfl
theorem aT{s:St}{a:Operand}{b:Option Operand}{c:Option Operand}:Ff s (.sslice a b c)=true:=Naa rfl rfl
theorem AW{s:St}{d:Option Tmp}{g:Option (Tmp×Bool)}  : Im s (.op d g (.mkmap))=[]:=Naa rfl rfl
theorem XW{s:St}  : Ff s (.mkmap)=true:=Naa rfl rfl
theorem BW{s:St}{d:Option Tmp}{g:Option (Tmp×Bool)}{b:Nat}{c:Bool}{e:D}{a:Operand}{f:Operand}:Im s (.op d g (.mlook b c e a f))=ct s [a]:=Naa rfl rfl
theorem YW{s:St}{a:Nat}{b:Bool}{c:D}{d:Operand}{e:Operand}:Ff s (.mlook a b c d e)=true:=Naa rfl rfl
theorem N1{s:St}{d:Option Tmp}{g:Option (Tmp×Bool)}{a:Nat}{b:Operand}{c:Operand}{e:Operand}:Im s (.op d g (.mput a b c e))=[]:=Naa rfl rfl
theorem Q2{s:St}{a:Nat}{b:Operand}{c:Operand}{d:Operand}:Ff s (.mput a b c d)=true:=Naa rfl rfl
theorem L1{s:St}{d:Option Tmp}{g:Option (Tmp×Bool)}{a:Operand}:Im s (.op d g (.mlen a))=ct s [a]:=Naa rfl rfl
theorem P2{s:St}{a:Operand}:Ff s (.mlen a)=true:=Naa rfl rfl
theorem GW{s:St}{d:Option Tmp}{g:Option (Tmp×Bool)}{b:Nat}{a:Operand}{c:Option Operand}{e:Option Operand}:Im s (.op d g (.trunc b a c e))=ct s [a]:=Naa rfl rfl
theorem dX{s:St}{b:Nat}{a:Operand}{c:Option Operand}{d:Option Operand}:Ff s (.trunc b a c d)=(match s.ev a with|.own ..=>true|_=>false):=Naa rfl rfl
theorem zW{s:St}{d:Option Tmp}{g:Option (Tmp×Bool)}{a:TypeId}{b:Operand}:Im s (.op d g (.mkifc a b))=[]:=Naa rfl rfl
theorem WW{s:St}{a:TypeId}{b:Operand}:Ff s (.mkifc a b)=true:=Naa rfl rfl
theorem iP{s:St}{d:Option Tmp}{g:Option (Tmp×Bool)}{a:Bool}{b:TypeId}{c:D}{e:Operand}:Im s (.op d g (.tassert a b c e))=[]:=Naa rfl rfl
theorem xP{s:St}{a:Bool}{b:TypeId}{c:D}{d:Operand}:Ff s (.tassert a b c d)=true:=Naa rfl rfl
theorem Haa{s:St}{d:Option Tmp}{g:Option (Tmp×Bool)}{a:Nat}{b:D}{c:Operand}:Im s (.op d g (.clr a b c))=[]:=Naa rfl rfl
theorem sb_clr{s:St}{a:Nat}{b:D}{c:Operand}:Ff s (.clr a b c)=true:=Naa rfl rfl
theorem C1{s:St}{d:Option Tmp}{g:Option (Tmp×Bool)}{a:Operand}:Im s (.op d g (.capn a))=[]:=Naa rfl rfl
theorem K2{s:St}{a:Operand}:Ff s (.capn a)=true:=Naa rfl rfl
theorem CW{s:St}{d:Option Tmp}{g:Option (Tmp×Bool)}{b:Bool}{a:Operand}:Im s (.op d g (.Zt b a))=ct s [a]:=Naa rfl rfl
theorem ZW{s:St}{a:Bool}{b:Operand}:Ff s (.Zt a b)=true:=Naa rfl rfl
theorem yW{s:St}{d:Option Tmp}{g:Option (Tmp×Bool)}{a:Nat}{b:Nat}{c:D}{e:Operand}{f:Operand}:Im s (.op d g (.mkapp a b c e f))=[]:=Naa rfl rfl
theorem VW{s:St}{a:Nat}{b:Nat}{c:D}{d:Operand}{e:Operand}:Ff s (.mkapp a b c d e)=true:=Naa rfl rfl
section
variable {ps:List (List Nat)} {q k t:Nat} {b:Bool} {dst:Option Tmp} {i:I} {l:List RI} {K:St->Prop} {fp:List (List Nat)} {s:St} {args:List Operand} {R:List (List Nat)->St->Prop} {p f g:List Nat} {x y:Nat} {o:Operand} {os:List Operand} {st:List D} {m:List Ent} {S:Nat} {r:List D}
theorem HY:qv P ps 0 l K fp s=kh P l K s:=by simp only[qv]
theorem dy_op:qv P ps (q+1) (.op dst none i::l) K fp s=yS (qv P ps.tail q l K) fp (ps.headD []) dst i s:=by simp only[qv]
theorem J7:qv P ps (q+1) (.op dst (some (t,b)) i::l) K fp ⟨st,m⟩=gD (st.getD t .dead) b (yS (qv P ps.tail q l K) fp (ps.headD []) dst i) ⟨st.set t (.v (.bool b)),m⟩ (skY (qv P ps.tail q l K) fp (ps.headD []) dst i) ⟨st.set t (.v (.bool (!b))),m⟩ ⟨st,m⟩:=by simp only[qv]
theorem GY:qv P ps (q+1) (.call dst none (.func k) args::l) K fp s=gU P (qv P ps.tail q l K) fp (ps.headD []) k dst args s:=by simp only[qv]
theorem IU:qv P ps (q+1) (.call dst (some (t,b)) (.func k) args::l) K fp ⟨st,m⟩=gD (st.getD t .dead) b (gU P (qv P ps.tail q l K) fp (ps.headD []) k dst args) ⟨st.set t (.v (.bool b)),m⟩ (cnY (qv P ps.tail q l K) fp (ps.headD []) dst args) ⟨st.set t (.v (.bool (!b))),m⟩ ⟨st,m⟩:=by simp only[qv]
theorem opY_q:yS R fp p dst i s=(FA fp (Im s (.op dst none i)) p=true/\Ff s i=true/\Yp (fa s i) (KO (R (fp++[Im s (.op dst none i)])) s dst)):=Naa rfl rfl
theorem skY_q:skY R fp p dst i s=(FA fp (Im s (.op dst none i)) p=true/\R (fp++[Im s (.op dst none i)]) (s.put dst (.v undef))):=Naa rfl rfl
theorem clY_q:gU P R fp p k dst args s=(FA fp (Jb s args) p=true/\Uw P k (args.map s.ev) (Jb s args) (R (fp++[Jb s args])) s dst):=Naa rfl rfl
theorem cnY_q:cnY R fp p dst args s=(FA fp (Jb s args) p=true/\R (fp++[Jb s args]) (s.put dst (.v undef))):=Naa rfl rfl
theorem td_nil:Jb s []=[]:=Naa rfl rfl
theorem R3:Jb s (o::os)=zm (s.ev o)++Jb s os:=Naa rfl rfl
theorem id_v{z:Value}:zm (.v z)=[]:=Naa rfl rfl
theorem T8:zm (.agg r)=Tk r:=Naa rfl rfl
theorem X8:zm (.tup r)=Tk r:=Naa rfl rfl
theorem id_sl:zm (.sl S r)=Tk r:=Naa rfl rfl
theorem id_pt{d:D}:zm (.pt d)=zm d:=Naa rfl rfl
theorem id_fn{a c:List D}:zm (.fn k a c)=Tk a++Tk c:=Naa rfl rfl
theorem qZ:zm .dead=[]:=Naa rfl rfl
theorem V8:zm (.own x y)=[x]:=Naa rfl rfl
theorem W8{u v:Nat}:zm (.ref x y u v)=[x]:=Naa rfl rfl
theorem rZ{u v:Nat}:zm (.view x y u v)=[x]:=Naa rfl rfl
theorem U8:Tk []=[]:=Naa rfl rfl
theorem pZ{d:D}:Tk (d::r)=zm d++Tk r:=Naa rfl rfl
theorem id_map{α:Type}{f:α->D} [Fr f] {l:List α}:Tk (l.map f)=[]:=Vt (Fr.l l)
theorem HX:ct s []=[]:=Naa rfl rfl
theorem iT:ct s (o::os)=(match Xd (s.ev o)with|some id=>id::ct s os|none=>ct s os):=Naa rfl rfl
theorem L6:FA fp f []=true:=Naa rfl rfl
theorem rY{j:Nat}:FA fp f (j::p)=(Zp (fp.getD j []) f&&FA fp f p):=Naa rfl rfl
theorem ap_n1:Zp [] f=true:=Naa rfl rfl
theorem ap_n2:Zp (x::g) f=(Ix x f&&Zp g f):=Naa rfl rfl
theorem ap_0:Ix x []=true:=Naa rfl rfl
theorem ap_s:Ix x (y::g)=(yQ x y&&Ix x g):=Naa rfl rfl
theorem ne_00:yQ 0 0=false:=Naa rfl rfl
theorem ne_0S:yQ 0 (y+1)=true:=Naa rfl rfl
theorem ne_S0:yQ (x+1) 0=true:=Naa rfl rfl
theorem ne_SS:yQ (x+1) (y+1)=yQ x y:=Naa rfl rfl
theorem top_v{z:Value}:Xd (.v z)=none:=Naa rfl rfl
theorem S3:Xd (.agg r)=none:=Naa rfl rfl
theorem V3:Xd (.tup r)=none:=Naa rfl rfl
theorem top_sl:Xd (.sl S r)=none:=Naa rfl rfl
theorem top_pt{d:D}:Xd (.pt d)=none:=Naa rfl rfl
theorem FX:Xd .dead=none:=Naa rfl rfl
theorem T3:Xd (.own x y)=some x:=Naa rfl rfl
theorem U3{u v:Nat}:Xd (.ref x y u v)=some x:=Naa rfl rfl
theorem GX{u v:Nat}:Xd (.view x y u v)=some x:=Naa rfl rfl
theorem hd_n{l:List Nat}{ps:List (List Nat)}:(l::ps).headD []=l:=Naa rfl rfl
theorem tl_n{l:List Nat}{ps:List (List Nat)}:(l::ps).tail=ps:=Naa rfl rfl
theorem hd_0:([]:List (List Nat)).headD []=[]:=Naa rfl rfl
theorem tl_0:([]:List (List Nat)).tail=[]:=Naa rfl rfl
end
def zy:=(And.intro (And.intro (And.intro (And.intro (And.intro (And.intro (And.intro (And.intro @rd_mv @sb_mv) (And.intro @P1 @U2)) (And.intro (And.intro @Eaa @sb_bin) (And.intro @Daa @sb_beq))) (And.intro (And.intro (And.intro @rd_un @sb_un) (And.intro @F1 @L2)) (And.intro (And.intro @sW @PW) (And.intro @Faa @sb_box)))) (And.intro (And.intro (And.intro (And.intro @tW @QW) (And.intro @IS @YS)) (And.intro (And.intro @K1 @O2) (And.intro @FW @cX))) (And.intro (And.intro (And.intro @O1 @T2) (And.intro @EW @aX)) (And.intro (And.intro @uW @RW) (And.intro @vW @SW))))) (And.intro (And.intro (And.intro (And.intro (And.intro @wW @TW) (And.intro @rW @OW)) (And.intro (And.intro @xW @UW) (And.intro @eP @vP))) (And.intro (And.intro (And.intro @Iaa @sb_len) (And.intro @T1 @W2)) (And.intro (And.intro @HS @XS) (And.intro @fP @wP)))) (And.intro (And.intro (And.intro (And.intro @JS @ZS) (And.intro @J1 @N2)) (And.intro (And.intro @rd_mm @sb_mm) (And.intro @Gaa @sb_ceq))) (And.intro (And.intro (And.intro @U1 @X2) (And.intro @Q1 @V2)) (And.intro (And.intro @LS @aT) (And.intro @AW @XW)))))) (And.intro (And.intro (And.intro (And.intro (And.intro (And.intro @BW @YW) (And.intro @N1 @Q2)) (And.intro (And.intro @L1 @P2) (And.intro @GW @dX))) (And.intro (And.intro (And.intro @zW @WW) (And.intro @iP @xP)) (And.intro (And.intro @Haa @sb_clr) (And.intro @C1 @K2)))) (And.intro (And.intro (And.intro (And.intro @CW @ZW) (And.intro @yW @VW)) (And.intro (And.intro @HY @dy_op) (And.intro @J7 @GY))) (And.intro (And.intro (And.intro @IU @opY_q) (And.intro @skY_q @clY_q)) (And.intro (And.intro @cnY_q @td_nil) (And.intro @R3 @id_v))))) (And.intro (And.intro (And.intro (And.intro (And.intro @T8 @X8) (And.intro @id_sl @id_pt)) (And.intro (And.intro @id_fn @qZ) (And.intro @V8 @W8))) (And.intro (And.intro (And.intro @rZ @U8) (And.intro @pZ @id_map)) (And.intro (And.intro @HX @iT) (And.intro @L6 @rY)))) (And.intro (And.intro (And.intro (And.intro @ap_n1 @ap_n2) (And.intro @ap_0 @ap_s)) (And.intro (And.intro @ne_00 @ne_0S) (And.intro @ne_S0 @ne_SS))) (And.intro (And.intro (And.intro @top_v @S3) (And.intro @V3 @top_sl)) (And.intro (And.intro @top_pt @FX) (And.intro @T3 @U3))))))) (And.intro (And.intro (And.intro (And.intro @GX @hd_n) (And.intro @tl_n @hd_0)) (And.intro (And.intro @tl_0 @V9) (And.intro @CZ @W9))) (And.intro (And.intro (And.intro @lq_v @T9) (And.intro @lq_sl @lq_pt)) (And.intro @lq_fr @U9))))
section
variable {P:Program} {N:Nat} {ops:Array Oper} {Q:Exit->Act->World->Prop} {K:St->Prop} {rl:List RI} {q:Nat} {ps:List (List Nat)} {pl:List (Option Nat)}
def TY(R:List (List Nat)->St->Prop) (fp:List (List Nat)) (p:List Nat) (k:Nat) (dst:Option Tmp) (i:I) (s:St):Prop:=
 FA fp [k] p=true/\match qn s k i with
  |some (d,e)=>R (fp++[[k]]) (({ s with m:=s.m.set k e }:St).put dst d)
  |none=>False
def CD(P:Program) (k:FuncId) (ds:List D) (ids:List Nat) (fp:List (List Nat)) (p:List Nat) (x:Nat) (f:D->Ent->Prop) (s:St):Prop:=
 (ids.elem x&&FA fp ids p)=true/\∃d e,((∀id∈ids,id<s.m.length)/\∀m,(∀id∈ids,m[id]?=s.m[id]?)->CallT P k ds m λd' m'=>d'=d/\m'=m.set x e)/\f d e
@[congr] theorem R4{P:Program} {k:FuncId} {ds b:List D} {ids a:List Nat} {fp c:List (List Nat)} {p d:List Nat} {x:Nat} {f:D->Ent->Prop} {s:St} (h1:ds=b) (h2:ids=a) (h3:fp=c) (h4:p=d):CD P k ds ids fp p x f s=CD P k b a c d x f s:=by simp_all
def cwY(P:Program) (R:List (List Nat)->St->Prop) (fp:List (List Nat)) (p:List Nat) (x:Nat) (k:FuncId) (dst:Option Tmp) (args:List Operand) (s:St):Prop:=
 CD P k (args.map s.ev) (Jb s args) fp p x (λd e=>R (fp++[Jb s args]) (({ s with m:=s.m.set x e }:St).put dst d)) s
def Ug(P:Program):List (Option Nat)->List (List Nat)->Nat->List RI->(St->Prop)->List (List Nat)->St->Prop
 |_,_,0,l,K,_,s=>kh P l K s
 |_,_,_+1,[],_,_,_=>False
 |some k::pl,ps,q+1,.op dst none i::l,K,fp,s=>TY (Ug P pl ps.tail q l K) fp (ps.headD []) k dst i s
 |none::pl,ps,q+1,.op dst none i::l,K,fp,s=>yS (Ug P pl ps.tail q l K) fp (ps.headD []) dst i s
 |none::pl,ps,q+1,.op dst (some (t,b)) i::l,K,fp,s=>
  gD (s.t.getD t .dead) b (yS (Ug P pl ps.tail q l K) fp (ps.headD []) dst i) ⟨s.t.set t (.v (.bool b)),s.m⟩ (skY (Ug P pl ps.tail q l K) fp (ps.headD []) dst i) ⟨s.t.set t (.v (.bool (!b))),s.m⟩ s
 |none::pl,ps,q+1,.call dst none (.func k) args::l,K,fp,s=>gU P (Ug P pl ps.tail q l K) fp (ps.headD []) k dst args s
 |some x::pl,ps,q+1,.call dst none (.func k) args::l,K,fp,s=>cwY P (Ug P pl ps.tail q l K) fp (ps.headD []) x k dst args s
 |_,_,_+1,_::_,_,_,_=>False
theorem Px:∀{q:Nat}{l:List RI}{pl:List (Option Nat)}{ps:List (List Nat)}{fp:List (List Nat)}{s:St},Ug P pl ps q l K fp s->Qn P pl ps fp q l K s
 |0,l,pl,ps,fp,s,h=>by simp only[Ug]at h;simp only[Qn];exact Ys h
 |q+1,[],pl,ps,fp,s,h=>by simp[Ug]at h
 |q+1,.op dst none i::l,some k::pl,ps,fp,s,h=>by
  simp only[Ug,TY]at h;obtain⟨j,h2⟩:=h;split at h2
  .rename_i d e hf;simp only[Qn];exact⟨j,trivial,d,e,hf,Px h2⟩
  simp_all
 |q+1,.op dst none i::l,none::pl,ps,fp,s,h=>by
  simp only[Ug,yS]at h;obtain⟨j,a,h2⟩:=h;simp only[Qn,gate];obtain⟨d,m',o,p⟩:=(Ol _ _).1 h2;exact⟨j,d,m',a,o,Px p⟩
 |q+1,.op dst (some (t,b)) i::l,none::pl,ps,fp,⟨st,sm⟩,h=>by
  simp only[Ug]at h;have h:=pG rfl h;have m:∀s,Im s (.op dst (some (t,b)) i)=Im s (.op dst none i):=λ_=>rfl;simp only[Qn];show FA fp (Im _ (.op dst (some (t,b)) i)) (ps.headD [])=true/\_;rw[m];split at h
  .simp_all
  .grind[gate]
  .rename_i c r u;refine⟨?_,?_⟩
   .by_cases hc:c=r
    .exact(h.1 hc).1
    .exact(h.2 hc).1
   rw[u];by_cases hc:c=r
   .obtain⟨j,a,h2⟩:=h.1 hc;obtain⟨d,m',o,p⟩:=(Ol _ _).1 h2;exact⟨λ_=>⟨d,m',a,o,Px p⟩,λhn=>(hn hc).elim⟩
   .obtain⟨j,h2⟩:=h.2 hc;exact⟨λhn=>(hc hn).elim,λ_=>Px h2⟩
 |q+1,.call dst none (.func k) args::l,none::pl,ps,fp,s,h=>by
  simp only[Ug,gU,Uw]at h;obtain⟨a,d,j,h2⟩:=h;simp only[Qn,gate];exact⟨a,d,by simp_all,Px h2⟩
 |q+1,.op dst g i::l,[],ps,fp,s,h=>by simp[Ug]at h
 |q+1,.op dst (some g) i::l,some k::pl,ps,fp,s,h=>by simp[Ug]at h
 |q+1,.call dst g f args::l,[],ps,fp,s,h=>by simp[Ug]at h
 |q+1,.call dst none (.func k) args::l,some x::pl,ps,fp,s,h=>by
  simp only[Ug,cwY,CD]at h;obtain⟨a,d,e,j,h2⟩:=h;simp only[Vaa,List.elem_eq_mem,decide_eq_true_eq]at a;obtain⟨a,n⟩:=a;simp only[Qn];exact⟨trivial,a,n,d,e,by simp_all,Px h2⟩
 |q+1,.call dst (some g) f args::l,some x::pl,ps,fp,s,h=>by simp[Ug]at h
 |q+1,.call dst none (.tmp _) args::l,some x::pl,ps,fp,s,h=>by simp[Ug]at h
 |q+1,.call dst none (.const _) args::l,some x::pl,ps,fp,s,h=>by simp[Ug]at h
 |q+1,.call dst none (.global _) args::l,some x::pl,ps,fp,s,h=>by simp[Ug]at h
 |q+1,.call dst none (.meth _ _) args::l,some x::pl,ps,fp,s,h=>by simp[Ug]at h
 |q+1,.call dst (some g) f args::l,none::pl,ps,fp,s,h=>by simp[Ug]at h
 |q+1,.call dst none (.tmp _) args::l,none::pl,ps,fp,s,h=>by simp[Ug]at h
 |q+1,.call dst none (.const _) args::l,none::pl,ps,fp,s,h=>by simp[Ug]at h
 |q+1,.call dst none (.global _) args::l,none::pl,ps,fp,s,h=>by simp[Ug]at h
 |q+1,.call dst none (.meth _ _) args::l,none::pl,ps,fp,s,h=>by simp[Ug]at h
theorem T.ao(hm:P.follows .mixedOrders=true) {cuts:List Nat}{bs:List (List Nat)}{l:List RI}{K:Exit->St->Prop}{s:St}(ps:List (List Nat)) (pl:List (Option Nat)) (a:Pu bs l q ps pl=true) (b:Ds s.m pl=true) (h:Ug P pl ps q l (K .normal) [] s):T P N (.any cuts q bs l) K s:=
 T.anyO hm ps pl a b (Px h)
def Uz:List (Option Nat)->List RI->Bool
 |none::pl,_::l=>Uz pl l
 |some _::pl,.call ..::l=>Uz pl l
 |[],_=>true
 |_,_=>false
theorem RG:∀{pl:List (Option Nat)}{l:List RI},Uz pl l=true->∀i p,pO pl i=some p->∃a b c d,l[i]?=some (.call a b c d)
 |[],l,_,i,p,h=>by grind[pO]
 |none::pl,[],h,_,_,_=>by grind[Uz]
 |some _::pl,[],h,_,_,_=>by grind[Uz]
 |none::pl,y::l,h,0,p,h2=>by grind[pO]
 |none::pl,y::l,h,i+1,p,h2=>by
  simp only[Uz]at h;simpa using RG h i p (by grind[pO])
 |some x::pl,.call a b c d::l,h,0,p,h2=>⟨a,b,c,d,rfl⟩
 |some x::pl,.call a b c d::l,h,i+1,p,h2=>by
  simp only[Uz]at h;simpa using RG h i p (by grind[pO])
 |some x::pl,.op a b c::l,h,_,_,_=>by grind[Uz]
theorem T.dp(hm:P.follows .mixedOrders=true) {l:List RI}{K:Exit->St->Prop}{s:St}(ps:List (List Nat)) (pl:List (Option Nat)) (c:ps=Hx q) (a:Uz pl l=true) (b:Ds s.m pl=true) (h:Ug P pl ps q l (K .normal) [] s):T P N (.draw q l) K s:=by
 subst c;exact T.drawP hm (Hx q) pl (RG a) UL b (Px h)
end
section
variable {P:Program} {pl:List (Option Nat)} {ps:List (List Nat)} {q k t:Nat} {b:Bool} {dst:Option Tmp} {i:I} {l:List RI} {K:St->Prop} {fp:List (List Nat)} {s:St} {st:List D} {m:List Ent} {args:List Operand} {R:List (List Nat)->St->Prop} {p:List Nat} {z:D} {S:Nat} {x:Operand}
theorem FY:Ug P pl ps 0 l K fp s=kh P l K s:=by simp only[Ug]
theorem F7:Ug P (some k::pl) ps (q+1) (.op dst none i::l) K fp s=TY (Ug P pl ps.tail q l K) fp (ps.headD []) k dst i s:=by simp only[Ug]
theorem do_op:Ug P (none::pl) ps (q+1) (.op dst none i::l) K fp s=yS (Ug P pl ps.tail q l K) fp (ps.headD []) dst i s:=by simp only[Ug]
theorem G7:Ug P (none::pl) ps (q+1) (.op dst (some (t,b)) i::l) K fp ⟨st,m⟩=gD (st.getD t .dead) b (yS (Ug P pl ps.tail q l K) fp (ps.headD []) dst i) ⟨st.set t (.v (.bool b)),m⟩ (skY (Ug P pl ps.tail q l K) fp (ps.headD []) dst i) ⟨st.set t (.v (.bool (!b))),m⟩ ⟨st,m⟩:=by simp only[Ug]
theorem EY:Ug P (none::pl) ps (q+1) (.call dst none (.func k) args::l) K fp s=gU P (Ug P pl ps.tail q l K) fp (ps.headD []) k dst args s:=by simp only[Ug]
theorem HU{x:Nat}:Ug P (some x::pl) ps (q+1) (.call dst none (.func k) args::l) K fp s=cwY P (Ug P pl ps.tail q l K) fp (ps.headD []) x k dst args s:=by simp only[Ug]
theorem cwY_q{R:List (List Nat)->St->Prop}{p:List Nat}{x:Nat}:cwY P R fp p x k dst args s=CD P k (args.map s.ev) (Jb s args) fp p x (λd e=>R (fp++[Jb s args]) (({ s with m:=s.m.set x e }:St).put dst d)) s:=Naa rfl rfl
theorem U7:TY R fp p k dst i s=(FA fp [k] p=true/\match qn s k i with|some (d,e)=>R (fp++[[k]]) (({ s with m:=s.m.set k e }:St).put dst d)|none=>False):=Naa rfl rfl
theorem UU:qn s k (.alloc S z)=(match s.m[k]? with|some (.live S' Pa [])=>if S'=S then some (.ref k (Pa+1) 0 0,.live S (Pa+1) [z])else none|_=>none):=Naa rfl rfl
theorem S7:qn s k (.box S x)=(match s.m[k]? with|some (.live S' Pa [])=>if S'=S/\(s.ev x).ok=true/\Yt S (s.ev x).cells=true then some (.ref k (Pa+1) 0 0,.live S (Pa+1) [s.ev x])else none|_=>none):=by simp only[mr];rfl
theorem T7{n:Nat}{qs:List (Nat×Operand)}:qn s k (.bslice S n z qs)=(match s.m[k]? with|some (.live S' Pa [])=>if S'=S then(zc s S qs (Oaa n z)).map λl=>(.own k (Pa+1),.live S (Pa+1) l)else none|_=>none):=Naa rfl rfl
end
def zo:=(And.intro (And.intro (And.intro (And.intro @FY @F7) (And.intro @do_op @G7)) (And.intro (And.intro @EY @HU) (And.intro @cwY_q @U7))) (And.intro (And.intro @UU @S7) @T7))
theorem RQ{G G':Gh}{w w':World}(b:SubF G w G' w') {d d':D}(hd:∀u,VRel G w d u->VRel G' w' d' u) {post:List D}(a:ia post=true) :
 ∀{pre:List D} {us:List Value},ia pre=true->VsRel G w (pre++d::post) us->VsRel G' w' (pre++d'::post) us
 |[],us,_,h=>by
  simp only[Uab,VsRel]at h⊢;obtain⟨u,r,rfl,c,h2⟩:=h;exact⟨u,r,rfl,hd u c,VsRel.free b a h2⟩
 |p::pre,us,e,h=>by
  simp only[ia,Vaa]at e;simp only[nab,VsRel]at h⊢;obtain⟨u,r,rfl,c,h2⟩:=h;exact⟨u,r,rfl,VRel.free b e.1 c,RQ b hd a e.2 h2⟩
section
variable {P:Program}
end
variable {P:Program}
def K4(P:Program) (f:FuncId) (ds:List D) (m:List Ent) (R:D->List Ent->Prop):Prop:=
 Enters P f/\∀(G:Gh) (w:World) (vs:List Value),VsRel G w ds vs->Inv G w m->
  Calls P f vs.toArray w λe w'=>∃v d m' G',e=.returned v/\R d m'/\VRel G' w' d v/\Inv G' w' m'/\StepN 0 G w m G' w' m'
theorem XT{f:FuncId}{F:Fun}{ds:List D}{m:List Ent}{R:D->List Ent->Prop}(g:Kv P f=some F) (hname:((P.funcs[f]?).map λfn=>fn.name == "runtime.NumGoroutine")=some false)
 (h:T P 0 F.code (Yz F.results R) ⟨ds++Oaa (F.ntmps-ds.length) .dead,m⟩):K4 P f ds m R:=by
 unfold Kv at g;split at g
 .rename_i fn i;split at g
  .rename_i b r hb k;simp only[Paa]at g;obtain⟨c,hc,rfl⟩:=g;refine⟨⟨fn,i,by simp_all,by simp_all⟩,λG w vs hv hi=>?_⟩;refine calls_of_wp i hb ?_;have j:=hv.length;have hr:Rel G w { tmps:=vs.toArray++Array.replicate (fn.ntmps-vs.toArray.size) undef,defers:=[] } ⟨ds++Oaa (fn.ntmps-ds.length) .dead,m⟩:=by
    refine⟨?_,hi,rfl⟩;simp only[Array.toList_append,Array.toList_replicate,List.size_toArray,j];exact hv.append (CL _ _ _)
   refine Code.wp_mono ?_ (h b hc G w _ (Dab _) hr);rintro e a' w' ⟨s',G',n,a,p⟩;have fin:(∃ds,Db s' r=some ds/\R (Bo ds) s'.m)->a'.defers=[]/\∃v,(results fn a'.tmps).run P w'=.ok v w'/\∃v_1 d m' G',Ending.returned v=.returned v_1/\R d m'/\VRel G' w' d v_1/\Inv G' w' m'/\StepN 0 G w m G' w' m':=by
    rintro⟨es,o,s⟩;obtain⟨v,l,q⟩:=jE (F:=⟨fn.ntmps,r,c⟩) k a o;exact⟨a.defers,v,l,v,_,_,G',rfl,s,q,a.inv,p⟩
   cases e with
   |normal=>exact fin n
   |ret=>exact fin n
   |_=>exact n.elim
  simp_all
 simp_all
theorem X7{k id S Pa:Nat}{l:List D}{m:List Ent}{pre post:List D}{o:D}
 (q:m[id]?=some (.live S Pa l)) (I:ia pre=true) (z:ia post=true) (hl:ia l=true)
 (h:K4 P k (pre++.own 0 0::post) [.live S 0 l] λd m'=>Sbs [] m' [d] [o]) :
 CallT P k (pre++.own id Pa::post) m λd m'=>d=o/\m'=m.set id .gone:=by
 refine⟨h.1,λG w vs hv hi=>?_⟩;have hlen:id<m.length:=(yab.1 q).1;obtain⟨eV,eS,eN,eC,eB⟩:=hi.ent id _ q;have E:SubF G w ⟨G.F,1,λ_=>G.B id,λ_=>0,λ_=>G.S id,λ_=>G.N id,λ_=>G.C id⟩ w:=⟨λ_ h=>h,λ_ _=>rfl⟩;have U:=RQ E (d:=.own id Pa) (d':=.own 0 0) (λu hu=>by
  simp only[VRel]at hu⊢
  grind) z I hv
 have O:Inv ⟨G.F,1,λ_=>G.B id,λ_=>0,λ_=>G.S id,λ_=>G.N id,λ_=>G.C id⟩ w [.live S 0 l]:=by
  refine⟨rfl,hi.F,?_,?_,hi.gl.bare λ_ h=>h⟩
  .intro i e he
   cases i with
   |zero=>
    simp at he;subst he;refine⟨rfl,eS,eN,eC,?_⟩;rcases eB with h|⟨b,cs,T,g,h2,L,W,Z⟩
    .simp_all
    .exact .inr ⟨b,cs,T,g,h2,L,W,Ta.free E rfl hl Z⟩
   |succ i=>simp at he
  grind
 have c:∀b,df ⟨G.F,1,λ_=>G.B id,λ_=>0,λ_=>G.S id,λ_=>G.N id,λ_=>G.C id⟩ [.live S 0 l] b->G.B id=some b:=by
  rintro b ⟨i,e,he,-,J⟩;omega
 refine(h.2 _ w vs U O).mono ?_;rintro e w' ⟨v,d,m',G',rfl,X,hvd,t,a⟩;have live1:(Ent.live S Pa l).isLive=true:=rfl;have Y:=(X.rel t (λi j v h=>by grind)).1 [v] (by simp only[VsRel];simp_all);simp only[VsRel]at Y;obtain⟨u,us,he,g,_⟩:=Y;injection he with he _;subst he;have s:=KH X;simp only[ia,Yaa]at s;have H:Le G w ⟨λb=>G'.F b\/df G' m' b,G.n,G.B,G.V,G.S,G.N,G.C⟩ w':=by
  refine⟨λb hb=>.inl (a.F b hb),λb hb=>a.heap b hb,dab _,λi _=>.inl (by simp)⟩
 have A:∀i x,m[i]?=some x->x.isLive=true->∀b,G.B i=some b->b<w.heap.size/\¬G.F b:=λi x hx hl b hb=>(hi.ent i x hx).lt hl hb;have notO:∀i x,m[i]?=some x->x.isLive=true->i≠id->∀b,G.B i=some b->G.B id≠some b:=λi x hx f Q b hb J=>Q (hi.apart i id x _ hx q f live1 b hb J);have p:∀i x,(m.set id .gone)[i]?=some x->(m[i]?=some x/\i≠id)\/(i=id/\x=.gone):=by
  grind
 refine⟨v,o,_,⟨λb=>G'.F b\/df G' m' b,G.n,G.B,G.V,G.S,G.N,G.C⟩,rfl,⟨rfl,rfl⟩,?_,⟨by simp[hi.n],?_,?_,?_,t.gl.bare λ_ h=>.inl h⟩,⟨H,a.os,a.tape,a.output,a.size,?_,?_,?_⟩⟩
 .refine VRel.free (G:=fc G' m' []) ⟨?_,λ_ _=>rfl⟩ s g;rintro b (hb|⟨hb,_⟩)
  all_goals simp_all
 .rintro b (hb|hb)
  .exact t.F b hb
  .exact(df.lt t hb).1
 .intro i x hx;rcases p i x hx with⟨g,h2⟩|⟨rfl,rfl⟩
  .by_cases f:x.isLive=true
   .refine(hi.ent i x g).mono H (by simp) (λb hb=>?_) (λb hb _ r=>?_)
    .exact a.keep b (A i x g f b hb).1 λho=>notO i x g f h2 b hb (c b ho)
    .rcases r with r|r
     .rcases a.newF b (A i x g f b hb).1 r with h|h
      all_goals grind
     .exact(notO i x g f h2 b hb (c b (a.newB b (A i x g f b hb).1 r))).elim
   .cases x with
    |gone=>trivial
    |_=>grind[Ent.isLive]
  .trivial
 .intro i j x y hx hy K ly b hb M;rcases p i x hx with⟨g,h2⟩|⟨rfl,rfl⟩
  .rcases p j y hy with⟨L,W⟩|⟨rfl,rfl⟩
   .exact hi.apart i j x y g L K ly b hb M
   grind
  grind
 .intro b hb R;exact a.keep b hb λho=>R ⟨id,_,q,live1,c b ho⟩
 .intro b hb r;rcases r with r|r
  .rcases a.newF b hb r with h|h
   .simp_all
   .exact .inr ⟨id,_,q,live1,c b h⟩
  .exact .inr ⟨id,_,q,live1,c b (a.newB b hb r)⟩
 .rintro b hb ⟨i,x,hx,K,J⟩;rcases p i x hx with⟨g,h2⟩|⟨rfl,rfl⟩
  .exact⟨i,x,g,K,J⟩
  .cases K
def mE(P:Program) (k:Nat) (pre post:List D) (S:Nat) (l:List D) (o:D):Prop:=∀m id Pa,m[id]?=some (.live S Pa l)->CallT P k (pre++.own id Pa::post) m λd m'=>d=o/\m'=m.set id .gone
def qT(P:Program) (k:Nat) (pre post:List D) (S:Nat) (l l':List D) (o:D):Prop:=∀m id Pa,m[id]?=some (.live S Pa l)->CallT P k (pre++.own id Pa::post) m λd m'=>d=o/\m'=m.set id (.live S Pa l')
theorem mE.at{k:Nat}{F:Fun}{pre post:List D}{S:Nat}{l:List D}{o:D}(n:Nat) (j:Kv P k=some F) (b:((P.funcs[k]?).map λfn=>fn.name == "runtime.NumGoroutine")=some false)
 (f:ia pre=true) (c:ia post=true) (hl:ia l=true) (hn:F.ntmps=(pre++.own 0 0::post).length+n)
 (h:T P 0 F.code (lI F.results o) ⟨(pre++.own 0 0::post)++Tm.ds n [],[.live S 0 l]⟩):mE P k pre post S l o:=by
 intro m id Pa hm;refine X7 hm f c hl (XT j b ?_);rw[hn,Wac,←CC];refine T.iU (h.mono ?_);have key:∀(e:Exit) (s:St),(∀s',Yz F.results (λd m'=>Sbs [] m' [d] [o]) e s' = ∃ds,Db s' F.results=some ds/\Sbs [] s'.m [Bo ds] [o])->(∃S,Tells 0 s S/\∃ds,Db S F.results=some ds/\Sbs [] S.m [Bo ds] [o])->GL 0 (Yz F.results λd m'=>Sbs [] m' [d] [o]) e s:=by
  intro e s he ⟨S,i,h2⟩ G w a hN hr;obtain⟨G',h3,h4⟩:=Ar i hN hr
  grind
 intro e s g
 cases e with
 |normal=>exact key _ s (λ_=>rfl) g
 |ret=>exact key _ s (λ_=>rfl) g
 |_=>exact(g:False).elim
theorem QP{k id S Pa:Nat}{pre post l ds:List D}{o:D}{m:List Ent}{f:D->List Ent->Prop}(h:mE P k pre post S l o) (a:ds=pre++.own id Pa::post) (hm:m[id]?=some (.live S Pa l)) (hf:f o (m.set id .gone)):ef P k ds m f:=by
 subst a;exact Vb (h m id Pa hm) hf
theorem yY{k id S Pa:Nat}{pre post l l' ds:List D}{o:D}{m:List Ent}{f:D->List Ent->Prop}(h:qT P k pre post S l l' o) (a:ds=pre++.own id Pa::post) (hm:m[id]?=some (.live S Pa l)) (hf:f o (m.set id (.live S Pa l'))):ef P k ds m f:=by
 subst a;exact Vb (h m id Pa hm) hf
theorem mJ{k:Nat}{vs:List Value}{v:Value}(a:Enters P k) (h:∀w,Calls P k vs.toArray w λe w'=>e=.returned v/\w'=w):Den P k (vs.map .v) (.v v):=by
 refine λm=>⟨a,λG w us hv hi=>?_⟩;have:∀(vs us:List Value),VsRel G w (vs.map .v) us->us=vs:=by
  intro vs
  induction vs with
  |nil=>intro us h;simpa [VsRel] using h
  |cons x l ih=>
   intro us h;simp only[xab,VsRel,VRel]at h
   grind
 obtain rfl:=this vs us hv;refine(h w).mono ?_;rintro e w' ⟨rfl,rfl⟩;exact⟨_,_,_,G,rfl,⟨rfl,rfl⟩,by simp[VRel],hi,Step.refl _ _ _⟩
open Go.Sort
variable {P:Program}
def eI(n:Int):D:=.v (.int .i64 n)
theorem BH{G:Gh}{w:World}{b:Nat}:∀{zs:List Int}{off:Nat},Ta G w b 1 (zs.map eI) off->∀j (h:j<zs.length),w.cell? ⟨b,off+j,none⟩=some (.int .i64 zs[j])
 |[],_,_,j,h=>absurd h (fae j)
 |z::zs,off,hr,j,h=>by
  simp only[xab,Ta]at hr;obtain⟨⟨u,a,h2,c⟩,d⟩:=hr;simp only[eI,VRel]at a;subst a
  cases j with
  |zero=>exact(c 0 (.int .i64 z) rfl).2
  |succ j=>
   have:=BH d j (by simp_all)
   grind
theorem sP{G:Gh}{w:World}{b:Nat}:∀{zs:List Int}{off:Nat},(∀j (h:j<zs.length),w.cell? ⟨b,off+j,none⟩=some (.int .i64 zs[j]))->Ta G w b 1 (zs.map eI) off
 |[],_,_=>by simp[Ta]
 |z::zs,off,hr=>by
  simp only[xab,Ta];refine⟨⟨.int .i64 z,by simp[eI,VRel],rfl,?_⟩,sP λj h=>?_⟩
  .intro j c hc
   cases j with
   |zero=>
    have:c=.int .i64 z:=by grind[Value.cells]
    subst this;exact⟨rfl,hr 0 (Eae _)⟩
   |succ j=>grind[Value.cells]
  .have:=hr (j+1) (by simp_all)
   grind
theorem holds_of{w:World}{b off:Nat}{cs:Array Value}{T:TypeId}{zs:List Int}(hb:w.heap[b]?=some (.cells cs T (0,0))) (h:∀j (h:j<zs.length),w.cell? ⟨b,off+j,none⟩=some (.int .i64 zs[j])):Holds (Value.int .i64) w b off zs.toArray:=by
 intro j hj
 grind[World.frozen?]
theorem HQ{w:World}{b off:Nat}{cs:Array Value}{T:TypeId}{ys:List Int}{n:Nat}{os:Array Obj}(hb:w.heap[b]?=some (.cells cs T (0,0))) (hlen:off+ys.length<=cs.size) {w':World}(hw:w'=grow (putRow (Value.int .i64) (Sort.ahead w n) b off ys.toArray) os) :
 w'.os=w.os/\w'.tape=w.tape/\w'.output=w.output/\w.heap.size<=w'.heap.size/\(∀k,k<w.heap.size->k≠b->w'.heap[k]?=w.heap[k]?)/\
  w'.heap[b]?=some (.cells (putCells (Value.int .i64) off ys.toArray cs) T (0,0))/\∀j (h:j<ys.length),w'.cell? ⟨b,off+j,none⟩=some (.int .i64 ys[j]):=by
 subst hw;have hbs:b<w.heap.size:=by
  grind
 have a:(grow (putRow (Value.int .i64) (Sort.ahead w n) b off ys.toArray) os).heap=w.heap.modify b (onCells (putCells (Value.int .i64) off ys.toArray))++os:=rfl;have c:(grow (putRow (Value.int .i64) (Sort.ahead w n) b off ys.toArray) os).heap[b]?=some (.cells (putCells (Value.int .i64) off ys.toArray cs) T (0,0)):=by
  rw[a,Array.getElem?_append_left (by simp_all),Array.getElem?_modify,if_pos rfl,hb];rfl
 refine⟨rfl,rfl,rfl,?_,?_,c,?_⟩
 all_goals grind[World.cell?,putCells]
theorem fO{k:FuncId}(s:Enters P k) {id Pa:Nat}{m:List Ent}{zs ys:List Int}(hm:m[id]?=some (.live 1 Pa (zs.map eI))) (hlen:ys.length=zs.length)
 (p:∀w b off cap,Holds (Value.int .i64) w b off zs.toArray->b<w.heap.size->Calls P k #[.slice (some ⟨b,off,none⟩) zs.length cap] w λe w'=>e=.returned (.tuple #[])/\∃n os,w'=grow (putRow (Value.int .i64) (Sort.ahead w n) b off ys.toArray) os)
 (o:∀w cap,Calls P k #[.slice none 0 cap] w λe w'=>e=.returned (.tuple #[])/\w'=w) :
 CallT P k [.own id Pa] m λd m'=>d=.tup []/\m'=m.set id (.live 1 Pa (ys.map eI)):=by
 refine⟨s,λG w vs hv hi=>?_⟩;obtain⟨eV,eS,eN,eC,eB⟩:=hi.ent id _ hm;simp only[VsRel,VRel]at hv;obtain⟨u,r,rfl,⟨a,n,c,rfl,g1,g2,g3⟩,rfl⟩:=hv;obtain⟨rfl,rfl,rfl⟩:=g3 eV;simp only[nac]at eN eC;rcases eB with⟨f,q⟩|⟨b,cs,T,f,t,hb,hc,hr⟩
 .have g:=congrArg wae q;dsimp only at g;have x:zs=[]:=gab (by omega);have v:ys=[]:=gab (by omega);subst x v;rw[f,eN];refine(o w _).mono ?_;rintro e w' ⟨rfl,rfl⟩;refine⟨_,_,_,G,rfl,⟨rfl,rfl⟩,by simp[VRel,VsRel],?_,?_⟩
  .have:m.set id (.live 1 Pa (([]:List Int).map eI))=m:=by
    apply xac
    grind
   simp_all
  .have:m.set id (.live 1 Pa (([]:List Int).map eI))=m:=by
    apply xac
    grind
   grind[Step.refl]
 .rw[f,eN];have i:b<w.heap.size:=by
   grind
  refine(p w b _ _ (holds_of hb (BH hr)) i).mono ?_;rintro e w' ⟨rfl,n,os,hw⟩;obtain⟨y,z,A,D,E,F,p7⟩:=HQ hb (by omega) hw;have l:=Pf (w':=w') hi hm rfl (e':=.live 1 Pa (ys.map eI)) rfl (G.B id) Pa (G.N id) (G.C id) (.inr ⟨eV.symm,rfl,rfl,rfl⟩) y z A D
   (λk hk j=>E k hk (λh=>j (by rw[f,h]))) (λk hk=>.inl hk) (by
    refine⟨by simp[Gh.vf],by grind[Gh.vf],by grind[Gh.vf],by grind[Gh.vf],.inr ⟨b,_,T,by grind[Gh.vf],t,F,?_,sP (by grind[Gh.vf])⟩⟩
    grind[Gh.vf,putCells])
  exact⟨_,_,_,_,rfl,⟨rfl,rfl⟩,by simp[VRel,VsRel],l.1,l.2⟩
theorem dO{k:FuncId}(s:Enters P k) {id Pa:Nat}{m:List Ent}{zs ys:List Int}(hm:m[id]?=some (.live 1 Pa (zs.map eI))) (hlen:ys.length<=zs.length)
 (p:∀w b off cap,Holds (Value.int .i64) w b off zs.toArray->zs.length<=cap->Calls P k #[.slice (some ⟨b,off,none⟩) zs.length cap] w λe w'=>e=.returned (.slice (some ⟨b,off,none⟩) ys.length cap)/\∃n xs,xs.length+ys.length=zs.length/\w'=grow (putRow (Value.int .i64) (Sort.ahead w n) b off (ys++xs).toArray) #[])
 (o:∀w cap,Calls P k #[.slice none 0 cap] w λe w'=>e=.returned (.slice none 0 cap)/\w'=w) :
 CallT P k [.own id Pa] m λd m'=>d=.own id (Pa+1)/\m'=m.set id (.live 1 (Pa+1) (ys.map eI)):=by
 refine⟨s,λG w vs hv hi=>?_⟩;obtain⟨eV,eS,eN,eC,eB⟩:=hi.ent id _ hm;simp only[VsRel,VRel]at hv;obtain⟨u,r,rfl,⟨a,n,c,rfl,g1,g2,g3⟩,rfl⟩:=hv;obtain⟨rfl,rfl,rfl⟩:=g3 eV;simp only[nac]at eN eC;rcases eB with⟨i,q⟩|⟨b,cs,T,i,t,hb,hc,hr⟩
 .have l:=congrArg wae q;dsimp only at l;have x:zs=[]:=gab (by omega);have v:ys=[]:=gab (by omega);subst x v;rw[i,eN];refine(o w _).mono ?_;rintro e w' ⟨rfl,rfl⟩;have f:=Pf (w':=w') hi hm rfl (e':=.live 1 (Pa+1) (([]:List Int).map eI)) rfl none (Pa+1) 0 (G.C id) (.inl (by omega)) rfl rfl rfl (dab _)
   (λk hk g=>rfl) (λk hk=>by grind) (by
    refine⟨by simp[Gh.vf],by grind[Gh.vf],by simp[Gh.vf],by simp,.inl ⟨by simp[Gh.vf],by grind[Gh.vf]⟩⟩)
  refine⟨_,_,_,_,rfl,⟨rfl,rfl⟩,?_,f.1,f.2⟩;simp only[VRel];exact⟨_,_,_,rfl,g1,by simp[Gh.vf],λ_=>by simp[Gh.vf]⟩
 .rw[i,eN];refine(p w b _ _ (holds_of hb (BH hr)) eC).mono ?_;rintro e w' ⟨rfl,n,xs,hx,hw⟩;obtain⟨y,z,A,D,E,F,p7⟩:=HQ hb (by grind) hw;have f:=Pf (w':=w') hi hm rfl (e':=.live 1 (Pa+1) (ys.map eI)) rfl (G.B id) (Pa+1) ys.length (G.C id) (.inl (by omega)) y z A D
   (λk hk g=>E k hk (λh=>g (by rw[i,h]))) (λk hk=>.inl hk) (by
    refine⟨by simp[Gh.vf],by grind[Gh.vf],by simp[Gh.vf],by grind[Gh.vf],.inr ⟨b,_,T,by grind[Gh.vf],t,F,?_,sP λj h=>?_⟩⟩
    all_goals grind[Gh.vf,putCells])
  refine⟨_,_,_,_,rfl,⟨rfl,rfl⟩,?_,f.1,f.2⟩;simp only[VRel];exact⟨_,_,_,rfl,g1,by simp[Gh.vf],λ_=>by grind[Gh.vf]⟩
theorem CU{k:FuncId}(f:Enters P k) {zs ys:List Int}(a:ys.length=zs.length)
 (d:∀w b off cap,Holds (Value.int .i64) w b off zs.toArray->b<w.heap.size->Calls P k #[.slice (some ⟨b,off,none⟩) zs.length cap] w λe w'=>e=.returned (.tuple #[])/\∃n os,w'=grow (putRow (Value.int .i64) (Sort.ahead w n) b off ys.toArray) os)
 (c:∀w cap,Calls P k #[.slice none 0 cap] w λe w'=>e=.returned (.tuple #[])/\w'=w):qT P k [] [] 1 (zs.map eI) (ys.map eI) (.tup []):=
 λm id Pa hm=>fO f hm a d c
variable {P:Program} {N:Nat}
theorem VsRel.swap{G:Gh}{w:World}{l:List D}{us:List Value}{i:Nat}{d:D}{u:Value}(h:VsRel G w l us) (hu:us.getD i undef=u) (hi:i<l.length) (hd:VRel G w d u):VsRel G w (l.set i d) us:=by
 have:=h.set hd i;have hlen:=h.length;have he:us.set i u=us:=by
  apply xac
  grind
 simp_all
theorem T.Zt{i j d S:Nat}{l:List D}{neg:Bool}{s:St}{K:Exit->St->Prop}(A:s.t[i]?=some (.sl S l)) (hl:ia l=true) (hj:j<s.t.length) (hij:i≠j) (hjd:j≠d) (hid:i≠d)
 (h:∀b,(l≠[]->b=neg)->K .normal ⟨(s.t.set j (.sl S l)).set d (.v (.bool b)),s.m⟩) :
 T P N (.jL [.op (some j) none (.mv (.tmp i)),.op (some d) none (.Zt neg (.tmp j))]) K s:=by
 intro code hc G w a hN hr;have hi:i<s.t.length:=(yab.1 A).1;obtain⟨u,hu,hv⟩:=hr.t.getElem A;have q:=hv;simp only[VRel]at q;obtain⟨p,n,c,rfl,hn,hnc,z⟩:=q;have x:a.tmps.toList.getD i undef=.slice p n c:=by simp_all
 have y:Rel G w a ⟨s.t.set i (.v (.slice p n c)),s.m⟩:=⟨hr.t.swap x hi (by simp[VRel]),hr.inv,hr.defers⟩;have E:T P N (.jL [.op (some j) none (.mv (.tmp i)),.op (some d) none (.Zt neg (.tmp j))]) (λe s'=>e=.normal/\s'=⟨((s.t.set i (.v (.slice p n c))).set j (.v (.slice p n c))).set d (.v (.bool (p.isNone !=neg))),s.m⟩) ⟨s.t.set i (.v (.slice p n c)),s.m⟩:=by
  refine T.jL ?_;have B:((s.t.set i (.v (.slice p n c))).getD i .dead)=.v (.slice p n c):=by simp_all
  have C:((s.t.set i (.v (.slice p n c))).set j (.v (.slice p n c))).getD j .dead=.v (.slice p n c):=by
   simp_all
  simp only[Lj,gate,fa,St.ev,B,C,St.put,wab,mab,exists_and_left,exists_eq_left',and_assoc,true_and]
 refine Code.wp_mono ?_ (E code hc G w a hN y);rintro e a' w' ⟨s',G',⟨rfl,rfl⟩,h2,r⟩;have o:VRel G' w' (.sl S l) (.slice p n c):=VRel.free ⟨r.F,r.heap⟩ (by grind[oa]) hv;refine⟨⟨(s.t.set j (.sl S l)).set d (.v (.bool (p.isNone !=neg))),s.m⟩,G',h _ ?_,⟨?_,h2.inv,h2.defers⟩,r⟩
 .intro hne;rcases z with z|⟨b,off,rfl,-⟩
  all_goals simp_all
 .have f:=h2.t;have g:∀k,(((s.t.set i (.v (.slice p n c))).set j (.v (.slice p n c))).set d (.v (.bool (p.isNone !=neg))))[k]?=some (.v (.slice p n c))->a'.tmps.toList.getD k undef=.slice p n c:=by
   intro k hk;obtain⟨u,h1,h2⟩:=f.getElem hk;simp only[VRel]at h2
   simp_all
  have gi:=g i (by grind);have gj:=g j (by grind);have H:=f.swap gi (by simp_all) o;have k2:=H.swap gj (by simp_all) o;have:((((s.t.set i (.v (.slice p n c))).set j (.v (.slice p n c))).set d (.v (.bool (p.isNone !=neg)))).set i (.sl S l)).set j (.sl S l)=(s.t.set j (.sl S l)).set d (.v (.bool (p.isNone !=neg))):=by
   apply xac
   grind
  simp_all
theorem I3{ρ:Qq}{m:List Ent}{n:Nat}{d:D}(h:oa d=true):Sq ρ m (n+1) d d:=by
 cases d with
 |v x=>exact rfl
 |agg a=>exact .inl ⟨rfl,by grind[oa]⟩
 |tup a=>exact .inl ⟨rfl,by grind[oa]⟩
 |sl S a=>exact⟨rfl,.inl ⟨rfl,by grind[oa]⟩⟩
 |pt d=>exact .inl ⟨rfl,by grind[oa]⟩
 |fn f a c=>
  simp only[oa,Vaa]at h;exact⟨rfl,.inl ⟨rfl,h.1⟩,.inl ⟨rfl,h.2⟩⟩
 |dead=>exact trivial
 |ifc t d=>exact⟨rfl,.inl ⟨rfl,by grind[oa]⟩⟩
 |own=>grind[oa]
 |ref=>grind[oa]
 |view=>grind[oa]
 |mp=>grind[oa]
def l7(E:List (Nat×List Nat)) (P:Program) (ops:Array Oper) (o:Oper) (op:Op):Option I:=
 match op with
 |.binOp b t x y _=>
  match E.lookup t with
  |some ks=>some (.ceq (decide (b=.neq)) ks x y)
  |none=>Zq P ops o op
 |_=>Zq P ops o op
def AY(E:List (Nat×List Nat)) (P:Program) (ops:Array Oper) (o:Oper):Option RI:=
 match guardOf ops o.guard with
 |none=>none
 |some g=>
  match dK P o.op with
  |some (f,args)=>some (.call o.dst g f args)
  |none=>(l7 E P ops o o.op).map λi=>.op o.dst g i
def HF(E:List (Nat×List Nat)) (P:Program) (ops:Array Oper):List Oper->Option (List RI)
 |[]=>some []
 |o::l=>
  match AY E P ops o,HF E P ops l with
  |some r,some rs=>some (r::rs)
  |_,_=>none
def Lz(E:List (Nat×List Nat)) (P:Program):Code->Option C
 |.skip=>some .skip
 |.region _ ops false=>(HF E P ops ops.toList).map .jL
 |.region _ ops true=>
  match HF E P ops ops.toList with
  |some rl=>
   if BC (zb ops) rl (XX (zb ops) rl.length)=true then some (.draw (XX (zb ops) rl.length) rl)
   else some (.any (rO (zb ops) rl.length (XX (zb ops) rl.length)) (XX (zb ops) rl.length) (zb ops) rl)
  |none=>none
 |.seq a b=>
  match Lz E P a,Lz E P b with
  |some x,some y=>some (.seq x y)
  |_,_=>none
 |.cond c a b=>
  match Lz E P a,Lz E P b with
  |some x,some y=>some (.cond c x y)
  |_,_=>none
 |.block id a=>(Lz E P a).map (.block id)
 |.loop a=>(Lz E P a).map .loop
 |.exit id=>some (.exit id)
 |.ret=>some .ret
 |.label _=>some .skip
 |.rangeFunc ..=>some .stuck
 |_=>none
def k7(E:List (Nat×List Nat)) (P:Program) (f:FuncId):Option Fun:=
 match P.funcs[f]? with
 |some fn=>
  match fn.body,uw P fn.results.toList with
  |some b,some r=>(Lz E P b).map λc=>⟨fn.ntmps,r,c⟩
  |_,_=>none
 |none=>none
theorem u8l{n:Nat}{h:n<2 ^ 8}:(⟨⟨⟨n,h⟩⟩⟩:UInt8)=UInt8.ofNat n:=by
 apply UInt8.toBitVec_inj.1;simp only[BitVec.ofFin_eq_ofNat];rfl
theorem arl{l:List UInt8}:(⟨l⟩:Array UInt8)=l.toArray:=rfl
structure Kf (P:Program) (n:Nat) where
 F:Fun
 ok:Kv P n=some F
 nm:((P.funcs[n]?).map λfn=>fn.name == "runtime.NumGoroutine")=some false
theorem Kf.o{P:Program}{n:Nat}(K:Kf P n):Kv P n=some K.F/\((P.funcs[n]?).map λfn=>fn.name == "runtime.NumGoroutine")=some false:=⟨K.ok,K.nm⟩
abbrev Kf.of(E:List (Nat×List Nat)) {P:Program}{n:Nat}{F:Fun}(_:k7 E P n=some F:=by conv=>lhs;reduce;try simp only[Int.reduceOfNat,Int.reduceNegSucc,u8l,arl,UInt8.reduceOfNat]) (ok:Kv P n=some F:=by kernel_rfl) (nm:((P.funcs[n]?).map λfn=>fn.name == "runtime.NumGoroutine")=some false:=by kernel_rfl):Kf P n:=⟨F,ok,nm⟩
theorem ss:type_of% @T.Ez:=@T.Ez
theorem rg:type_of% @T.rg:=@T.rg
theorem sr:type_of% @T.sr:=@T.sr
theorem cd:type_of% @T.cd:=@T.cd
theorem bk:type_of% @T.bk:=@T.bk
theorem sk:type_of% @T.skip:=@T.skip
theorem xt:type_of% @T.exit:=@T.exit
theorem ay:type_of% @T.ay:=@T.ay
theorem dy:type_of% @T.dy:=@T.dy
theorem ao:type_of% @T.ao:=@T.ao
theorem tl:type_of% @T.XH:=@T.XH
theorem cq:type_of% @ZE:=@ZE
theorem lq:type_of% @cK:=@cK
theorem bs:type_of% @Co:=@Co
theorem lc:type_of% @T.zV:=@T.zV
theorem tj:type_of% @T.join:=@T.join
theorem lv:type_of% @CF:=@CF
theorem cv:type_of% @DF:=@DF
section
variable {P:Program} {N:Nat}
theorem jn{X:Type}{a b:C}{K:Exit->St->Prop}{s:St} [StbC N K] (S:X->St) {o:Option X}{β:Type}{f:X->Option β}{r:β}(h:o.bind f=some r) (ha:∀z,o=some z->Tm.T P N a (KJ N K S (.inl z:X⊕Unit)) s) (hb:∀z,o=some z->f z=some r->Tm.T P N b K (S z)):Tm.T P N (.seq a b) K s:=by
 obtain⟨z,c,h2⟩:=Co h;refine T.join (R:=Unit) S (.inl z) (ha z c) ?_;rintro _ ⟨⟩;exact hb z c h2
theorem gi{p q Y N:Prop} [Decidable q] {α:Type}{A B:Option α}{r:α}(h:(if q then A else B)=some r) (b:q->A=some r->Y) (h2:¬q->B=some r->N) (a:p=q:=by rfl):gP p Y N:=gP.ite h (iff_of_eq a) b h2
theorem rt:type_of% @T.ret:=@T.ret
theorem er:type_of% @Rn:=@Rn
end
theorem eT{α:Type} [BEq α] [LawfulBEq α] {a b:α}(h:a=b):(a==b)=true:=beq_iff_eq.2 h
theorem eF{α:Type} [BEq α] [LawfulBEq α] {a b:α}(h:¬a=b):(a==b)=false:=beq_eq_false_iff_ne.2 h
theorem eD{α:Type} [BEq α] [LawfulBEq α] {a b:α}(h:¬ ¬a=b):(a==b)=true:=beq_iff_eq.2 (cab.1 h)
theorem nT{α:Type} [BEq α] [LawfulBEq α] {a b:α}(h:¬a=b):(a !=b)=true:=bne_iff_ne.2 h
theorem nF{α:Type} [BEq α] [LawfulBEq α] {a b:α}(h:a=b):(a !=b)=false:=by simpa using h
theorem nD{α:Type} [BEq α] [LawfulBEq α] {a b:α}(h:¬ ¬a=b):(a !=b)=false:=nF (cab.1 h)
theorem bI{α β:Type}{l:List α}{i:Int}{g:α->Option β}{r:β}(h:(idx l i).bind g=some r):∃x,0<=i/\l[i.toNat]?=some x/\g x=some r:=by
 obtain⟨x,a,h2⟩:=Co h;obtain⟨b,c⟩:=idx_f a;exact⟨x,b,c,h2⟩
theorem bO{α β:Type}{l:List α}{i:Int}{g:α->Option β}{r:β}(h:(idx l i).bind g=some r):∃x,0<=i/\l[i.toNat]?=some x/\i.toNat<l.length/\g x=some r:=by
 obtain⟨x,a,h2⟩:=Co h;obtain⟨b,c,d⟩:=idx_o a;exact⟨x,b,c,d,h2⟩
section
variable {P:Program} {N:Nat}
theorem jm{X:Type}{a b:C}{K:Exit->St->Prop}{s:St} [StbC N K] {o:Option X}{β:Type}{f:X->Option β}{r:β}(h:o.bind f=some r) (S:X->St) (ha:∀z,o=some z->Tm.T P N a (KJ N K S (.inl z:X⊕Unit)) s) (hb:∀z,o=some z->f z=some r->Tm.T P N b K (S z)):Tm.T P N (.seq a b) K s:=jn S h ha hb
theorem lm{σ β ρ:Type}{id:Nat}{K:Exit->St->Prop} [hst:StbC N K] {x:C}{s:St}{step:σ->Option (Ex σ β ρ)}{x0:σ}{y:β⊕ρ}(d:Tm.da step x0=some y) (S:σ->St) (B:β->St) (c:Tells N s (S x0))
 (round:∀a z,step a=some z->(∀v,z=.ret v->y=.inr v)->Tm.T P N x (KL N id K S B z) (S a))
 (rest:∀b,y=.inl b->K .normal (B b)):Tm.T P N (.block id (.loop x)) K s:=T.zV S B step x0 d c round rest
end
abbrev ok(i:Nat):Option Nat×Nat×Nat:=(some i,0,0)
abbrev ov(i v:Nat):Option Nat×Nat×Nat:=(some i,v,0)
abbrev on(S:Nat):Option Nat×Nat×Nat:=(none,S,0)
theorem tq{N:Nat}(ρ:Qq) {s S:St}(h:xD (Sq ρ s.m 9) s.t S.t/\wD ρ s.m ρ S.m) (hk:gy ρ N=true:=by rfl) (a:(ρ.filterMap (·.1)).Nodup:=by decide):Tells N s S:=Tells.q ρ hk a h
theorem fq:type_of% @sJ:=@sJ
theorem zr:type_of% (And.intro (And.intro @um @lu) (And.intro @nu @yr)):=And.intro (And.intro @um @lu) (And.intro @nu @yr)
class FrL (l:List D):Prop where
 h:ia l=true
instance:FrL []:=⟨rfl⟩
instance {α:Type}{e:α->D} [Fr e] {x:α}{l:List D} [FrL l]:FrL (e x::l):=⟨tE FrL.h⟩
theorem dk{P:Program}{k:Nat}{l:List D}{o:D}(n:Nat) (K:Kf P k) (h:T P 0 K.F.code (lI K.F.results o) ⟨l++Tm.ds n [],[]⟩) (hf:ia l=true:=by exact FrL.h) (hn:K.F.ntmps=l.length+n:=by rfl):Den P k l o:=Den.at n K.ok K.nm hf hn h
variable {P:Program}
def VQ(P:Program) (k:Nat) (ds:List D) (S:Nat) (l:List D):Prop:=∀m,CallT P k ds m λd m'=>d=.own m.length 0/\m'=m++[.live S 0 l]
theorem Y7{k S:Nat}{l ds:List D}(r:ia ds=true) (hl:ia l=true) (h:CallT P k ds [] λd m'=>d=.own 0 0/\m'=[.live S 0 l]):VQ P k ds S l:=by
 refine λm=>⟨h.1,λG w vs hv hi=>?_⟩;have A:=h.2 (Gh.bare G.F) w vs (VsRel.free (G:=G) (G':=Gh.bare G.F) ⟨λ_ h=>h,λ_ _=>rfl⟩ r hv) (jB hi.F (hi.gl.bare λ_ h=>h));refine A.mono ?_;rintro e w' ⟨v,d,m',G',rfl,⟨rfl,rfl⟩,t,g,c⟩;obtain⟨fV,fS,fN,fC,fB⟩:=g.ent 0 _ rfl;have hGn:=hi.n;have noO:∀b,¬df (Gh.bare G.F) [] b:=λb=>Zy;have owned0:∀b,G'.B 0=some b->df G' [.live S 0 l] b:=λb hb=>⟨0,_,rfl,rfl,hb⟩;have newb:∀b,G'.B 0=some b->w.heap.size<=b:=λb hb=>by
  rcases sac b w.heap.size with h|h
  .exact(noO b (c.newB b h (owned0 b hb))).elim
  omega
 have hF:∀b,b<w.heap.size->G'.F b->G.F b:=λb hb hf=>by
  rcases c.newF b hb hf with h|h
  .exact h
  simp_all
 have p:SubF G' w' ⟨G'.F,G.n+1,λi=>if i=G.n then G'.B 0 else G.B i,λi=>if i=G.n then 0 else G.V i,λi=>if i=G.n then G'.S 0 else G.S i,λi=>if i=G.n then G'.N 0 else G.N i,λi=>if i=G.n then G'.C 0 else G.C i⟩ w':=⟨λ_ h=>h,λ_ _=>rfl⟩;have o:Le G w ⟨G'.F,G.n+1,λi=>if i=G.n then G'.B 0 else G.B i,λi=>if i=G.n then 0 else G.V i,λi=>if i=G.n then G'.S 0 else G.S i,λi=>if i=G.n then G'.N 0 else G.N i,λi=>if i=G.n then G'.C 0 else G.C i⟩ w':=by
  refine⟨λb hb=>c.le.F b hb,λb hb=>c.le.heap b hb,by simp,λi hi=>.inl ?_⟩
  grind
 have a:∀i x,(m++[.live S 0 l])[i]?=some x->(m[i]?=some x/\i≠G.n)\/(i=G.n/\x=.live S 0 l):=by
  grind
 have z:∀i x,m[i]?=some x->x.isLive=true->∀b,G.B i=some b->b<w.heap.size/\¬G.F b:=λi x hx hl b hb=>(hi.ent i x hx).lt hl hb;refine⟨v,_,_,⟨G'.F,G.n+1,λi=>if i=G.n then G'.B 0 else G.B i,λi=>if i=G.n then 0 else G.V i,λi=>if i=G.n then G'.S 0 else G.S i,λi=>if i=G.n then G'.N 0 else G.N i,λi=>if i=G.n then G'.C 0 else G.C i⟩,rfl,⟨rfl,rfl⟩,?_,⟨by simp_all,g.F,?_,?_,g.gl.bare λ_ h=>h⟩,⟨o,c.os,c.tape,c.output,c.size,?_,?_,?_⟩⟩
 .simp only[VRel]at t⊢
  grind
 .intro i x hx;rcases a i x hx with⟨f,h2⟩|⟨rfl,rfl⟩
  .by_cases s:x.isLive=true
   .refine(hi.ent i x f).mono o (by grind) (λb hb=>?_) (λb hb _ hf=>?_)
    .exact c.keep b (z i x f s b hb).1 (noO b)
    grind
   .cases x with
    |gone=>trivial
    |_=>grind[Ent.isLive]
  .refine⟨by simp,by simp_all,by simp_all,by simp_all,?_⟩;rcases fB with h|⟨b,cs,T,f,h2,q,E,H⟩
   .simp_all
   .exact .inr ⟨b,cs,T,by simp_all,h2,q,by simp_all,by simpa using Ta.free p rfl hl H⟩
 .intro i j x y hx I u J b hb hb';rcases a i x hx with⟨f,h2⟩|⟨rfl,rfl⟩<;>rcases a j y I with⟨q,E⟩|⟨rfl,rfl⟩
  .exact hi.apart i j x y f q u J b (by simp_all) (by simp_all)
  all_goals grind
 .intro b hb hno;exact c.keep b hb (noO b)
 .simp_all
 .rintro b hb ⟨i,x,hx,u,hB⟩;rcases a i x hx with⟨f,h2⟩|⟨rfl,rfl⟩
  .exact⟨i,x,f,u,by simp_all⟩
  grind
theorem VQ.den{k S:Nat}{l ds:List D}(a:ia ds=true) (hl:ia l=true) (h:VQ P k ds S l):Den P k ds (.sl S l):=by
 refine dM a ((h []).mono ?_);rintro d m' ⟨rfl,rfl⟩;exact .cf (by simp) rfl (Sbs.free hl) .nil
theorem eM{k:Nat}{ds:List D}{R:D->List Ent->Prop}{d2:D}{m2:List Ent}(h:CallT P k ds [] R) (ht:∀d m',R d m'->Tells 0 ⟨[d],m'⟩ ⟨[d2],m2⟩):CallT P k ds [] λd m'=>d=d2/\m'=m2:=by
 refine⟨h.1,λG w vs hv hi=>(h.2 G w vs hv hi).mono ?_⟩;rintro e w' ⟨v,d,m',G',rfl,m,hvd,b,o⟩;have hr:Rel G' w' { tmps:=#[v],defers:=[] } ⟨[d],m'⟩:=⟨by simp only[VsRel];simp_all,b,rfl⟩;obtain⟨a,c,l⟩:=Ar (ht d m' m) (Dab _) hr;have g:=c.t;simp only[VsRel]at g;obtain⟨u,us,he,j,_⟩:=g;injection he with he _;subst he;have f:=(o.EX (Dab _)).trans l;have i:0=G.n:=by rw[hi.n];rfl
 rw[i]at f;exact⟨_,d2,m2,a,rfl,⟨rfl,rfl⟩,j,c.inv,f.toStep⟩
def Y5(rs:List RV) (S:Nat) (l:List D) (e:Exit) (s:St):Prop:=
 match e with
 |.normal=>∃S',Tells 0 s S'/\∃ds,Db S' rs=some ds/\Tells 0 ⟨[Bo ds],S'.m⟩ ⟨[.own 0 0],[.live S 0 l]⟩
 |.ret=>∃S',Tells 0 s S'/\∃ds,Db S' rs=some ds/\Tells 0 ⟨[Bo ds],S'.m⟩ ⟨[.own 0 0],[.live S 0 l]⟩
 |_=>False
def P7(r:Option (List D)) (m:List Ent) (S:Nat) (l:List D):Prop:=∃ds,r=some ds/\Tells 0 ⟨[Bo ds],m⟩ ⟨[.own 0 0],[.live S 0 l]⟩
theorem EndO_ret'{rs:List RV}{S:Nat}{l:List D}{s:St}(h:P7 (Db s rs) s.m S l):Y5 rs S l .ret s:=by
 obtain⟨ds,a,h2⟩:=h;exact⟨s,.refl s,ds,a,h2⟩
theorem endO_some{ds:List D}{m:List Ent}{S:Nat}{l:List D}:P7 (some ds) m S l=Tells 0 ⟨[Bo ds],m⟩ ⟨[.own 0 0],[.live S 0 l]⟩:=by simp[P7]
instance {rs:List RV}{S:Nat}{l:List D}:StbC 0 (Y5 rs S l):=⟨by
 rintro s S' h ⟨S1,a,h2⟩;exact⟨S1,h.trans a,h2⟩⟩
theorem VQ.at{k S:Nat}{F:Fun}{ds l:List D}(n:Nat) (i:Kv P k=some F) (b:((P.funcs[k]?).map λfn=>fn.name == "runtime.NumGoroutine")=some false)
 (c:ia ds=true) (hl:ia l=true) (hn:F.ntmps=ds.length+n) (h:T P 0 F.code (Y5 F.results S l) ⟨ds++Tm.ds n [],[]⟩):VQ P k ds S l:=by
 refine Y7 c hl (eM (R:=λd m'=>Tells 0 ⟨[d],m'⟩ ⟨[.own 0 0],[.live S 0 l]⟩) (gk i b ?_) λ_ _ h=>h);rw[hn,Wac,←CC];refine T.iU (h.mono ?_);have key:∀(e:Exit) (s:St),(∀s',Yz F.results (λd m'=>Tells 0 ⟨[d],m'⟩ ⟨[.own 0 0],[.live S 0 l]⟩) e s' = ∃ds,Db s' F.results=some ds/\Tells 0 ⟨[Bo ds],s'.m⟩ ⟨[.own 0 0],[.live S 0 l]⟩)->(∃S',Tells 0 s S'/\∃ds,Db S' F.results=some ds/\Tells 0 ⟨[Bo ds],S'.m⟩ ⟨[.own 0 0],[.live S 0 l]⟩)->GL 0 (Yz F.results λd m'=>Tells 0 ⟨[d],m'⟩ ⟨[.own 0 0],[.live S 0 l]⟩) e s:=by
  intro e s he ⟨S,g,h2⟩ G w a hN hr;obtain⟨G',h3,h4⟩:=Ar g hN hr
  grind
 intro e s f
 cases e with
 |normal=>exact key _ s (λ_=>rfl) f
 |ret=>exact key _ s (λ_=>rfl) f
 |_=>exact(f:False).elim
theorem callX_O{k S:Nat}{ds a l:List D}{m:List Ent}{f:D->List Ent->Prop}(h:VQ P k a S l) (hf:f (.own m.length 0) (m++[.live S 0 l])) (b:va ds a):ef P k ds m f:=
 Vb (nR b (h m)) hf
inductive Q where
 |p (n:Nat)
 |k (n:Nat)
 |s (d:D)
 |y (i:Nat)
 |g (q:List Q)
inductive M1 where
 |o (j:Nat)
 |O (j:Nat)
 |H (j:Nat) (q:List Q)
 |C (j:Nat) (l:List D)
 |c (j:Nat) (l:List D)
 |n (S:Nat) (l:List D)
 |h (j:Nat) (q:List Q)
 |m (j:Nat) (l:List (Value×D))
structure Ed where
 q:List Q
 m:List M1
inductive Hi:Type 1 where
 |o
 |b (l r:Hi)
 |z (n:Nat) (x:Hi)
 |t (ρ:Qq)
 |a (ps:List (List Nat)) (x:Hi)
 |g (ps:List (List Nat)) (pl:List (Option Nat)) (x:Hi)
 |f (S:Ed) (ρ:Qq) (x:Hi)
 |d (M:List M1) (ρ:Qq) (x:Hi)
 |j {X:Type} (n:Nat) (S:X->Ed) (l r:Hi)
 |e {X:Type} (n:Nat) (S:X->Ed) (l r:Hi)
 |l {σ β:Type} (n m:Nat) (S:σ->Ed) (B:β->Ed) (ρ:Qq) (x y:Hi)
 |u {σ:Type} (n:Nat) (S:σ->Ed) (ρ:Qq) (x:Hi)
 |i {X:Type} {P:Program} {k:Nat} (K:Kf P k) (n w:Nat) (S:X->Ed) (x y:Hi)
 |c {P:Program} {k:Nat} (K:Kf P k) (w:Nat) (x:Hi)
 |v (x:Hi)
def Io:List M1->Nat->Nat->Option (Nat×Bool)
 |[],_,_=>none
 |.o k::l,j,i=>bif k==j then some (i,false)else Io l j (i+1)
 |.c k _::l,j,i=>bif k==j then some (i,false)else Io l j (i+1)
 |.h k _::l,j,i=>bif k==j then some (i,false)else Io l j (i+1)
 |.O k::l,j,i=>bif k==j then some (i,true)else Io l j (i+1)
 |.H k _::l,j,i=>bif k==j then some (i,true)else Io l j (i+1)
 |.C k _::l,j,i=>bif k==j then some (i,true)else Io l j (i+1)
 |.n _ _::l,j,i=>Io l j (i+1)
 |.m k _::l,j,i=>bif k==j then some (i,false)else Io l j (i+1)
def rnP(o:Option (Nat×Bool)) (v:Nat) (f:Nat->Nat->D):D:=match o with|some (i,b)=>f i (bif b then v else 0)|none=>.dead
mutual
def Mt(ks:List M1) (m:List Ent):Nat->D->D
 |n+1,.own j v=>N5 ks m n v m[j]? (Io ks j 0)
 |n+1,.ref j v x s=>O5 ks m n v x s m[j]? (Io ks j 0)
 |_+1,.view j v lo k=>rnP (Io ks j 0) v λi v=>.view i v lo k
 |_+1,.mp j=>rnP (Io ks j 0) 0 λi _=>.mp i
 |n+1,.agg l=>.agg (Cv ks m n l)
 |n+1,.tup l=>.tup (Cv ks m n l)
 |n+1,.fn k a c=>.fn k (Cv ks m n a) (Cv ks m n c)
 |n+1,.pt d=>.pt (Mt ks m n d)
 |_,d=>d
def N5(ks:List M1) (m:List Ent) (n v:Nat):Option Ent->Option (Nat×Bool)->D
 |_,some (i,b)=>.own i (bif b then v else 0)
 |some (.live S _ l),none=>.sl S (Cv ks m n l)
 |_,none=>.dead
def O5(ks:List M1) (m:List Ent) (n v x s:Nat):Option Ent->Option (Nat×Bool)->D
 |_,some (i,b)=>.ref i (bif b then v else 0) x s
 |some (.live _ _ (d::_)),none=>.pt (Mt ks m n d)
 |_,none=>.dead
def Cv(ks:List M1) (m:List Ent) (n:Nat):List D->List D
 |[]=>[]
 |d::l=>Mt ks m n d::Cv ks m n l
end
mutual
theorem yH(ks:List M1) (m:List Ent):∀(n:Nat) (d:D),oa d=true->Mt ks m n d=d
 |n+1,.agg l,h=>by simp only[oa]at h;simp only[Mt,uf ks m n l h]
 |n+1,.tup l,h=>by simp only[oa]at h;simp only[Mt,uf ks m n l h]
 |n+1,.fn k a c,h=>by simp only[oa,Vaa]at h;simp only[Mt,uf ks m n a h.1,uf ks m n c h.2]
 |n+1,.pt d,h=>by simp only[oa]at h;simp only[Mt,yH ks m n d h]
 |_,.own _ _,h=>by grind[oa]
 |_,.view _ _ _ _,h=>by grind[oa]
 |_,.ref _ _ _ _,h=>by grind[oa]
 |_,.mp _,h=>by grind[oa]
 |n,.v _,_=>by grind[Mt]
 |n,.sl _ _,_=>by grind[Mt]
 |n,.ifc _ _,_=>by grind[Mt]
 |n,.dead,_=>by grind[Mt]
 |0,.agg _,_=>by simp only[Mt]
 |0,.tup _,_=>by simp only[Mt]
 |0,.fn _ _ _,_=>by simp only[Mt]
 |0,.pt _,_=>by simp only[Mt]
theorem uf(ks:List M1) (m:List Ent) (n:Nat):∀l:List D,ia l=true->Cv ks m n l=l
 |[],_=>by grind[Cv]
 |d::l,h=>by simp only[ia,Vaa]at h;simp only[Cv,yH ks m n d h.1,uf ks m n l h.2]
end
def VM:List D->List D
 |[]=>[]
 |_::l=>.dead::VM l
def Cw(ks:List M1) (m:List Ent) (u:List D):List Q->List D->List D
 |[],l=>VM l
 |_::_,[]=>[]
 |.p 0::q,l=>Cw ks m u q l
 |.p (n+1)::q,d::l=>Mt ks m 9 d::Cw ks m u (.p n::q) l
 |.k 0::q,l=>Cw ks m u q l
 |.k (n+1)::q,d::l=>.dead::Cw ks m u (.k n::q) l
 |.s e::q,d::l=>e::Cw ks m u q l
 |.y i::q,_::l=>Mt ks m 9 (u.getD i .dead)::Cw ks m u q l
 |.g r::q,.agg b::l=>.agg (Cw ks m u r b)::Cw ks m u q l
 |.g _::q,d::l=>d::Cw ks m u q l
def eO(ks:List M1) (m:List Ent):Option Ent->Ent
 |some (.live S v l)=>.live S 0 (Cv ks m 9 l)
 |some e=>e
 |none=>.gone
def eX(b:List D):Option Ent->Ent
 |some (.live S v _)=>.live S v b
 |some e=>e
 |none=>.gone
def eV(ks:List M1) (m:List Ent):Option Ent->Ent
 |some (.live S v l)=>.live S v (Cv ks m 9 l)
 |some e=>e
 |none=>.gone
def eW(ks:List M1) (m:List Ent) (q:List Q):Option Ent->Ent
 |some (.live S v l)=>.live S v (Cw ks m [] q l)
 |some e=>e
 |none=>.gone
def eC(b:List D):Option Ent->Ent
 |some (.live S v _)=>.live S 0 b
 |some e=>e
 |none=>.gone
def eH(ks:List M1) (m:List Ent) (q:List Q):Option Ent->Ent
 |some (.live S v l)=>.live S 0 (Cw ks m [] q l)
 |some e=>e
 |none=>.gone
def VX(ks:List M1) (m:List Ent):M1->Ent
 |.o j=>eO ks m m[j]?
 |.c j l=>eC l m[j]?
 |.n S l=>.live S 0 l
 |.h j q=>eH ks m q m[j]?
 |.O j=>eV ks m m[j]?
 |.C j l=>eX l m[j]?
 |.H j q=>eW ks m q m[j]?
 |.m _ l=>.mp l
def edM(ks:List M1) (m:List Ent):List M1->List Ent
 |[]=>[]
 |x::l=>VX ks m x::edM ks m l
def eFz(ks:List M1) (m:List Ent):Option Ent->Ent
 |some (.live S _ l)=>.live S 0 (Cv ks m 9 l)
 |some e=>e
 |none=>.gone
def eGz(ks:List M1) (m:List Ent):Option Ent->Ent
 |some (.live S v l)=>.live S v (Cv ks m 9 l)
 |some e=>e
 |none=>.gone
def WX(ks:List M1) (m:List Ent):List M1->List Ent
 |[]=>[]
 |.o j::l=>eFz ks m m[j]?::WX ks m l
 |.O j::l=>eGz ks m m[j]?::WX ks m l
 |_::l=>WX ks m l
def fd(ks:List M1) (s:St):St:=⟨Cv ks s.m 9 s.t,WX ks s.m ks⟩
def ed(E:Ed) (s:St):St:=⟨Cw E.m s.m s.t E.q s.t,edM E.m s.m E.m⟩
section
variable {ks l:List M1} {i j k n S:Nat} {d e:D} {b c u:List D} {q:List Q} {t:List D} {m r:List Ent} {f:Nat->Nat->D} {x:M1} {v lo y:Nat} {a:Ent}
theorem d_ed:ed ⟨q,ks⟩ ⟨t,m⟩=⟨Cw ks m t q t,edM ks m ks⟩:=Naa rfl rfl
theorem qU:Io [] j i=none:=Naa rfl rfl
theorem rU:Io (.o k::l) j i=bif k==j then some (i,false)else Io l j (i+1):=Naa rfl rfl
theorem vU:Io (.O k::l) j i=bif k==j then some (i,true)else Io l j (i+1):=Naa rfl rfl
theorem wU:Io (.H k q::l) j i=bif k==j then some (i,true)else Io l j (i+1):=Naa rfl rfl
theorem xU:Io (.C k b::l) j i=bif k==j then some (i,true)else Io l j (i+1):=Naa rfl rfl
theorem sU:Io (.c k b::l) j i=bif k==j then some (i,false)else Io l j (i+1):=Naa rfl rfl
theorem tU:Io (.h k q::l) j i=bif k==j then some (i,false)else Io l j (i+1):=Naa rfl rfl
theorem uU:Io (.n S b::l) j i=Io l j (i+1):=Naa rfl rfl
theorem yU{a:List (Value×D)}:Io (.m k a::l) j i=bif k==j then some (i,false)else Io l j (i+1):=Naa rfl rfl
theorem d_e8{a:List (Value×D)}:VX ks m (.m j a)=.mp a:=Naa rfl rfl
theorem d_f7{a:List (Value×D)}:eO ks m (some (.mp a))=.mp a:=Naa rfl rfl
theorem g_e3{a:List (Value×D)}:eFz ks m (some (.mp a))=.mp a:=Naa rfl rfl
theorem u7:rnP (some (i,true)) v f=f i v:=Naa rfl rfl
theorem v7:rnP (some (i,false)) v f=f i 0:=Naa rfl rfl
theorem r7:rnP none v f=.dead:=Naa rfl rfl
theorem d_e1:VX ks m (.o j)=eO ks m m[j]?:=Naa rfl rfl
theorem d_f1:eO ks m (some (.live S v b))=.live S 0 (Cv ks m 9 b):=Naa rfl rfl
theorem d_f2:eC c (some (.live S v b))=.live S 0 c:=Naa rfl rfl
theorem d_f3:eH ks m q (some (.live S v b))=.live S 0 (Cw ks m [] q b):=Naa rfl rfl
theorem d_e2:VX ks m (.c j c)=eC c m[j]?:=Naa rfl rfl
theorem d_e3:VX ks m (.n S b)=.live S 0 b:=Naa rfl rfl
theorem d_e5:VX ks m (.O j)=eV ks m m[j]?:=Naa rfl rfl
theorem d_e6:VX ks m (.H j q)=eW ks m q m[j]?:=Naa rfl rfl
theorem d_f4:eV ks m (some (.live S v b))=.live S v (Cv ks m 9 b):=Naa rfl rfl
theorem d_f5:eW ks m q (some (.live S v b))=.live S v (Cw ks m [] q b):=Naa rfl rfl
theorem d_e7:VX ks m (.C j c)=eX c m[j]?:=Naa rfl rfl
theorem d_f6:eX c (some (.live S v b))=.live S v c:=Naa rfl rfl
theorem d_e4:VX ks m (.h j q)=eH ks m q m[j]?:=Naa rfl rfl
theorem d_m0:edM ks m []=[]:=Naa rfl rfl
theorem d_m1:edM ks m (x::l)=VX ks m x::edM ks m l:=Naa rfl rfl
theorem d_k0:VM []=[]:=Naa rfl rfl
theorem d_k1:VM (d::b)=.dead::VM b:=Naa rfl rfl
theorem d_q0:Cw ks m u [] b=VM b:=by grind[Cw]
theorem d_q1:Cw ks m u (.p 0::q) b=Cw ks m u q b:=by cases b<;>cases q<;>simp only[Cw,VM]
theorem d_q2:Cw ks m u (.p (n+1)::q) (d::b)=Mt ks m 9 d::Cw ks m u (.p n::q) b:=by grind[Cw]
theorem d_q3:Cw ks m u (.k 0::q) b=Cw ks m u q b:=by cases b<;>cases q<;>simp only[Cw,VM]
theorem d_q4:Cw ks m u (.k (n+1)::q) (d::b)=.dead::Cw ks m u (.k n::q) b:=by grind[Cw]
theorem d_q5:Cw ks m u (.s e::q) (d::b)=e::Cw ks m u q b:=by grind[Cw]
theorem d_q6{g:List Q}:Cw ks m u (.g g::q) (.agg c::b)=.agg (Cw ks m u g c)::Cw ks m u q b:=by grind[Cw]
theorem d_q7{i:Nat}:Cw ks m u (.y i::q) (d::b)=Mt ks m 9 (u.getD i .dead)::Cw ks m u q b:=by grind[Cw]
theorem g_fd:fd ks ⟨t,m⟩=⟨Cv ks m 9 t,WX ks m ks⟩:=Naa rfl rfl
theorem gV:Mt ks m (n+1) (.own j v)=N5 ks m n v m[j]? (Io ks j 0):=by grind[Mt]
theorem iV:Mt ks m (n+1) (.ref j v y k)=O5 ks m n v y k m[j]? (Io ks j 0):=by grind[Mt]
theorem QO:Mt ks m (n+1) (.view j v lo k)=rnP (Io ks j 0) v λi v=>.view i v lo k:=by grind[Mt]
theorem w8:Mt ks m (n+1) (.mp j)=rnP (Io ks j 0) 0 λi _=>.mp i:=by grind[Mt]
theorem XU:Mt ks m (n+1) (.agg b)=.agg (Cv ks m n b):=by grind[Mt]
theorem kV:Mt ks m (n+1) (.tup b)=.tup (Cv ks m n b):=by grind[Mt]
theorem l8:Mt ks m (n+1) (.fn k b c)=.fn k (Cv ks m n b) (Cv ks m n c):=by grind[Mt]
theorem F8:Mt ks m (n+1) (.pt d)=.pt (Mt ks m n d):=by grind[Mt]
theorem g_v{x:Value}:Mt ks m n (.v x)=.v x:=by grind[Mt]
theorem K8:Mt ks m n (.sl S b)=.sl S b:=by grind[Mt]
theorem cV:Mt ks m n (.ifc S d)=.ifc S d:=by grind[Mt]
theorem OO:Mt ks m n .dead=.dead:=by grind[Mt]
theorem n8{α:Type}{e:α->D} [Fr e] {x:α}:Mt ks m n (e x)=e x:=yH ks m n _ (Fr.h x)
theorem o8:Cv ks m n []=[]:=by grind[Cv]
theorem p8:Cv ks m n (d::b)=Mt ks m n d::Cv ks m n b:=by grind[Cv]
theorem q8{α:Type}{e:α->D} [Fr e] {x:List α}:Cv ks m n (x.map e)=x.map e:=uf ks m n _ (Fr.l x)
theorem B8{o:Option Ent}:N5 ks m n v o (some (i,false))=.own i 0:=by simp_all[N5]
theorem C8{o:Option Ent}:N5 ks m n v o (some (i,true))=.own i v:=by simp_all[N5]
theorem D8:N5 ks m n v (some (.live S k b)) none=.sl S (Cv ks m n b):=by grind[N5]
theorem G8{o:Option Ent}:O5 ks m n v y k o (some (i,false))=.ref i 0 y k:=by simp_all[O5]
theorem H8{o:Option Ent}:O5 ks m n v y k o (some (i,true))=.ref i v y k:=by simp_all[O5]
theorem I8:O5 ks m n v y k (some (.live S j (d::b))) none=.pt (Mt ks m n d):=by grind[O5]
theorem g_e1:eFz ks m (some (.live S v b))=.live S 0 (Cv ks m 9 b):=Naa rfl rfl
theorem g_e2:eGz ks m (some (.live S v b))=.live S v (Cv ks m 9 b):=Naa rfl rfl
theorem g_m0:WX ks m []=[]:=Naa rfl rfl
theorem g_m1:WX ks m (.o j::l)=eFz ks m m[j]?::WX ks m l:=Naa rfl rfl
theorem g_m2:WX ks m (.O j::l)=eGz ks m m[j]?::WX ks m l:=Naa rfl rfl
theorem o7{α:Type}{x y:α}:(bif true then x else y)=x:=Naa rfl rfl
theorem q7{α:Type}{x y:α}:(bif false then x else y)=y:=Naa rfl rfl
end
theorem zf:type_of% (And.intro (And.intro (And.intro (And.intro (And.intro (And.intro @g_fd @gV) (And.intro @iV @QO)) (And.intro (And.intro @w8 @XU) (And.intro @kV @l8))) (And.intro (And.intro (And.intro @F8 @g_v) (And.intro @K8 @cV)) (And.intro (And.intro @OO @n8) (And.intro @o8 @p8)))) (And.intro (And.intro (And.intro (And.intro @q8 @B8) (And.intro @C8 @D8)) (And.intro (And.intro @G8 @H8) (And.intro @I8 @g_e1))) (And.intro (And.intro (And.intro @g_e2 @g_m0) (And.intro (And.intro @g_m1 (And.intro @yU @g_e3)) @g_m2)) (And.intro (And.intro @qU @rU) (And.intro @sU @tU))))) (And.intro (And.intro (And.intro (And.intro @uU @vU) (And.intro @wU @xU)) (And.intro (And.intro @u7 @v7) (And.intro @r7 @o7))) (And.intro (And.intro @q7 @Kab.{0}) @Wab.{0}))):=(And.intro (And.intro (And.intro (And.intro (And.intro (And.intro @g_fd @gV) (And.intro @iV @QO)) (And.intro (And.intro @w8 @XU) (And.intro @kV @l8))) (And.intro (And.intro (And.intro @F8 @g_v) (And.intro @K8 @cV)) (And.intro (And.intro @OO @n8) (And.intro @o8 @p8)))) (And.intro (And.intro (And.intro (And.intro @q8 @B8) (And.intro @C8 @D8)) (And.intro (And.intro @G8 @H8) (And.intro @I8 @g_e1))) (And.intro (And.intro (And.intro @g_e2 @g_m0) (And.intro (And.intro @g_m1 (And.intro @yU @g_e3)) @g_m2)) (And.intro (And.intro @qU @rU) (And.intro @sU @tU))))) (And.intro (And.intro (And.intro (And.intro @uU @vU) (And.intro @wU @xU)) (And.intro (And.intro @u7 @v7) (And.intro @r7 @o7))) (And.intro (And.intro @q7 @Kab.{0}) @Wab.{0})))def zd:=(And.intro (And.intro (And.intro (And.intro (And.intro (And.intro (And.intro @d_ed @qU) (And.intro @rU @sU)) (And.intro (And.intro @tU @uU) (And.intro @vU @wU))) (And.intro (And.intro (And.intro @xU @u7) (And.intro @v7 @r7)) (And.intro (And.intro @d_e1 @d_e2) (And.intro @d_e3 @d_e4)))) (And.intro (And.intro (And.intro (And.intro @d_e5 @d_e6) (And.intro @d_e7 @d_f1)) (And.intro (And.intro @d_f2 @d_f3) (And.intro @d_f4 @d_f5))) (And.intro (And.intro (And.intro (And.intro @d_f6 (And.intro @yU (And.intro @d_e8 @d_f7))) @d_m0) (And.intro @d_m1 @d_k0)) (And.intro (And.intro @d_k1 @d_q0) (And.intro @d_q1 @d_q2))))) (And.intro (And.intro (And.intro (And.intro (And.intro @d_q3 @d_q4) (And.intro @d_q5 @d_q6)) (And.intro (And.intro @d_q7 @gV) (And.intro @iV @QO))) (And.intro (And.intro (And.intro @w8 @XU) (And.intro @kV @l8)) (And.intro (And.intro @F8 @g_v) (And.intro @K8 @cV)))) (And.intro (And.intro (And.intro (And.intro @OO @n8) (And.intro @o8 @p8)) (And.intro (And.intro @q8 @B8) (And.intro @C8 @D8))) (And.intro (And.intro (And.intro @G8 @H8) (And.intro @I8 @zab.{0})) (And.intro (And.intro @Lab.{0} @o7) (And.intro @q7 @Kab.{0})))))) @Wab.{0})
class HiC:Type 1 where
 h:Hi
def Yi[i:HiC] (p:Prop):Prop:=p
structure Wh (n:Nat) (p:Prop):Prop where
 h:p
structure Lh (n:Nat) (p:Prop):Prop where
 h:p
def EQ(p:Prop):Prop:=p
theorem EQ.out{p:Prop}(h:EQ p):p:=h
structure Lk {α β:Type}(c:α->β) (z:β) (w:α) (p:Prop):Prop where
 l:∀v,z=c v->v=w
 k:p
theorem cN{p:Prop}(h:¬p):¬p:=h
class Con (p:Prop) (q:outParam Prop):Prop where
 h:p->q
class Enc (α:Type) (e:outParam (α->D)):Prop where
 h:True
section
variable {P:Program} {N:Nat} {h x:Hi} {a b:C} {K:Exit->St->Prop} {s:St}
theorem gj{X:Type}{n:Nat}{S:X->Ed}(g:@Yi ⟨.j n S h x⟩ (Tm.T P N (.seq a b) K s)):@Yi ⟨.j n S h x⟩ (Tm.T P N (.seq a b) K s):=g
theorem ge{X:Type}{n:Nat}{S:X->Ed}(g:@Yi ⟨.e n S h x⟩ (Tm.T P N (.seq a b) K s)):@Yi ⟨.e n S h x⟩ (Tm.T P N (.seq a b) K s):=g
theorem gq{p:Prop}{a b:St->Prop}{s1 s2:St}(g:@Yi ⟨h⟩ (gP p (a s1) (b s2))):@Yi ⟨h⟩ (gQ p a s1 b s2):=g
theorem gy1{R:List (List Nat)->St->Prop}{fp:List (List Nat)}{p:List Nat}{d:Option Tmp}{i:I}(g:@Yi ⟨h⟩ (yS R fp p d i s)):@Yi ⟨h⟩ (yS R fp p d i s):=g
theorem gy2{R:List (List Nat)->St->Prop}{fp:List (List Nat)}{p:List Nat}{d:Option Tmp}{i:I}(g:@Yi ⟨h⟩ (skY R fp p d i s)):@Yi ⟨h⟩ (skY R fp p d i s):=g
theorem gy3{R:List (List Nat)->St->Prop}{fp:List (List Nat)}{p:List Nat}{k:FuncId}{d:Option Tmp}{i:List Operand}(g:@Yi ⟨h⟩ (gU P R fp p k d i s)):@Yi ⟨h⟩ (gU P R fp p k d i s):=g
theorem gy4{R:List (List Nat)->St->Prop}{fp:List (List Nat)}{p:List Nat}{d:Option Tmp}{i:List Operand}(g:@Yi ⟨h⟩ (cnY R fp p d i s)):@Yi ⟨h⟩ (cnY R fp p d i s):=g
theorem gy5{ps:List (List Nat)}{q:Nat}{l:List RI}{R:St->Prop}{fp:List (List Nat)}(g:@Yi ⟨h⟩ (qv P ps q l R fp s)):@Yi ⟨h⟩ (qv P ps q l R fp s):=g
theorem gg{p A B:Prop}(g:@Yi ⟨h⟩ (gP p A B)):@Yi ⟨h⟩ (gP p A B):=g
theorem gcd{c:Operand}(g:@Yi ⟨h⟩ (Tm.T P N (.cond c a b) K s)):@Yi ⟨h⟩ (Tm.T P N (.cond c a b) K s):=g
theorem gcx{k:Nat}{ds:List D}{m:List Ent}{f:D->List Ent->Prop}(g:@Yi ⟨h⟩ (ef P k ds m f)):@Yi ⟨h⟩ (ef P k ds m f):=g
theorem gcl{k:Nat}{ds:List D}{i:List Nat}{R:St->Prop}{d:Option Tmp}(g:@Yi ⟨h⟩ (Uw P k ds i R s d)):@Yi ⟨h⟩ (Uw P k ds i R s d):=g
theorem gl{σ β:Type}{n m:Nat}{S:σ->Ed}{B:β->Ed}{ρ:Qq}{y:Hi}{id:Nat}(g:@Yi ⟨.l n m S B ρ x y⟩ (Tm.T P N (.block id (.loop a)) K s)):@Yi ⟨.l n m S B ρ x y⟩ (Tm.T P N (.block id (.loop a)) K s):=g
theorem gu{σ:Type}{n:Nat}{S:σ->Ed}{ρ:Qq}{id:Nat}(g:@Yi ⟨.u n S ρ x⟩ (Tm.T P N (.block id (.loop a)) K s)):@Yi ⟨.u n S ρ x⟩ (Tm.T P N (.block id (.loop a)) K s):=g
theorem gf{E:Ed}{ρ:Qq}{q:Prop}(g:@Yi ⟨.f E ρ x⟩ q):@Yi ⟨.f E ρ x⟩ q:=g
theorem ga{ps:List (List Nat)}{q:Prop}(g:@Yi ⟨.a ps x⟩ q):@Yi ⟨.a ps x⟩ q:=g
theorem gao{ps:List (List Nat)}{pl:List (Option Nat)}{q:Prop}(g:@Yi ⟨.g ps pl x⟩ q):@Yi ⟨.g ps pl x⟩ q:=g
theorem yss(g:@Yi ⟨h⟩ (Tm.T P N a (KS P N b K) s)):@Yi ⟨h⟩ (Tm.T P N (.seq a b) K s):=T.Ez g
theorem yz{n:Nat}(g:@Yi ⟨.z n h⟩ (Tm.T P N a (KS P N b K) s)):@Yi ⟨.z (n+1) h⟩ (Tm.T P N (.seq a b) K s):=T.Ez g
theorem yz0{p:Prop}(g:@Yi ⟨h⟩ p):@Yi ⟨.z 0 h⟩ p:=g
theorem yrg{l:List RI}(g:@Yi ⟨h⟩ (kh P l (K .normal) s)):@Yi ⟨h⟩ (Tm.T P N (.jL l) K s):=T.rg g
theorem ydy{q:Nat}{l:List RI}(hm:P.follows .mixedOrders=true) (g:@Yi ⟨h⟩ (qv P [] q l (K .normal) [] s)):@Yi ⟨h⟩ (Tm.T P N (.draw q l) K s):=T.dy hm g
theorem yay{q:Nat}{l:List RI}{cuts:List Nat}{bs ps:List (List Nat)}(hm:P.follows .mixedOrders=true) (b:Pu bs l q ps []=true) (g:@Yi ⟨h⟩ (qv P ps q l (K .normal) [] s)):@Yi ⟨.a ps h⟩ (Tm.T P N (.any cuts q bs l) K s):=T.ay hm ps b g
theorem yao{q:Nat}{l:List RI}{cuts:List Nat}{bs ps:List (List Nat)}{pl:List (Option Nat)}(hm:P.follows .mixedOrders=true) (a:Pu bs l q ps pl=true) (b:Ds s.m pl=true) (g:@Yi ⟨h⟩ (Ug P pl ps q l (K .normal) [] s)):@Yi ⟨.g ps pl h⟩ (Tm.T P N (.any cuts q bs l) K s):=T.ao hm ps pl a b g
theorem ysk(g:@Yi ⟨h⟩ (K .normal s)):@Yi ⟨h⟩ (Tm.T P N .skip K s):=T.skip g
theorem yxt{id:Nat}(g:@Yi ⟨h⟩ (K (.exit id) s)):@Yi ⟨h⟩ (Tm.T P N (.exit id) K s):=T.exit g
theorem ybk{id:Nat}(g:@Yi ⟨h⟩ (Tm.T P N a (KB id K) s)):@Yi ⟨h⟩ (Tm.T P N (.block id a) K s):=T.bk g
theorem ycd{c:Operand}{t:Bool}(ht:s.ev c=.v (.bool t)) (g:@Yi ⟨h⟩ (gP (t=true) (Tm.T P N a K s) (Tm.T P N b K s))):@Yi ⟨h⟩ (Tm.T P N (.cond c a b) K s):=T.cd ht g
theorem ygi{p q c d:Prop} [Decidable q] {α:Type}{A B:Option α}{r:α}(f:q->A=some r->@Yi ⟨h⟩ c) (h2:¬q->B=some r->@Yi ⟨x⟩ d) (a:p=q:=by rfl) (e:(if q then A else B)=some r):@Yi ⟨.b h x⟩ (gP p c d):=gP.ite e (iff_of_eq a) f h2
theorem ygo{p q b c:Prop} [Decidable q] {α:Type}{A B:Option α}{r:α}(d:q->A=some r->@Yi ⟨.o⟩ b) (h2:¬q->B=some r->@Yi ⟨.o⟩ c) (a:p=q:=by rfl) (e:(if q then A else B)=some r):@Yi ⟨.o⟩ (gP p b c):=gP.ite e (iff_of_eq a) d h2
theorem ygc{p q c d:Prop} [Decidable q] {α:Type}{A B:Option α}{r:α}(f:q->A=some r->@Yi ⟨h⟩ c) (h2:¬q->B=some r->@Yi ⟨x⟩ d) (a:p↔q) (e:(if q then A else B)=some r):@Yi ⟨.b h x⟩ (gP p c d):=gP.ite e a f h2
theorem ygoc{p q b c:Prop} [Decidable q] {α:Type}{A B:Option α}{r:α}(d:q->A=some r->@Yi ⟨.o⟩ b) (h2:¬q->B=some r->@Yi ⟨.o⟩ c) (a:p↔q) (e:(if q then A else B)=some r):@Yi ⟨.o⟩ (gP p b c):=gP.ite e a d h2
theorem ycq{k:Nat}{p:Prop}{ds a:List D}{o:D}{m:List Ent}{f:D->List Ent->Prop} [c:Con p (Den P k a o)] (e:p) (hf:@Yi ⟨h⟩ (f o m)) (b:xD (Sq [] [] 9) ds a):@Yi ⟨h⟩ (ef P k ds m f):=ZE (c.h e) hf b
theorem ycv{k:Nat}{p:Prop}{ds a:List D}{o:D}{m:List Ent}{f:D->List Ent->Prop} [c:Con p (Den P k a o)] (e:p) (hf:@Yi ⟨h⟩ (f o m)) (b:flat o=true) (d:xD (Sq [] m 9) ds a):@Yi ⟨h⟩ (ef P k ds m f):=DF (c.h e) hf b d
theorem ylq{k:Nat}{p:Prop}{ds a:List D}{o:D}{R:St->Prop}{dst:Option Tmp} [c:Con p (Den P k a o)] (e:p) (hf:@Yi ⟨h⟩ (R (s.put dst o))) (b:xD (Sq [] [] 9) ds a):@Yi ⟨h⟩ (Uw P k ds [] R s dst):=cK (c.h e) hf b
theorem ylv{k:Nat}{p:Prop}{ids:List Nat}{ds a:List D}{o:D}{R:St->Prop}{dst:Option Tmp} [c:Con p (Den P k a o)] (e:p) (hf:@Yi ⟨h⟩ (R (s.put dst o))) (b:flat o=true) (hi:(ids.all λi=>decide (i<s.m.length))=true) (ht:lE ids ds=true) (d:xD (Lq s.m) ds a):@Yi ⟨h⟩ (Uw P k ds ids R s dst):=CF (c.h e) hf b hi ht d
theorem J4{s' S:St}{ρ:Qq}(g:xD (Sq ρ s'.m 9) s'.t S.t/\wD ρ s'.m ρ S.m) (hk:gy ρ N=true) (a:(ρ.filterMap (·.1)).Nodup):@Yi ⟨.t ρ⟩ (Tells N s' S):=Tells.q ρ hk a g
theorem yrt(g:K .ret s):@Yi ⟨h⟩ (Tm.T P N .ret K s):=T.ret g
theorem yen{rs:List RV}{o:D}(g:BM (Db s rs) s.m o):@Yi ⟨h⟩ (lI rs o .normal s):=X5 g
theorem yf{S:Ed}{S':St}{ρ:Qq}(hS:ed S s=S') (g:@Yi ⟨.t ρ⟩ (Tells N s S')) (g2:@Yi ⟨h⟩ (Tm.T P N a K S')):@Yi ⟨.f S ρ h⟩ (Tm.T P N a K s):=T.XH g g2
theorem gd{M:List M1}{ρ:Qq}{q:Prop}(g:@Yi ⟨.d M ρ x⟩ q):@Yi ⟨.d M ρ x⟩ q:=g
theorem yd{M:List M1}{S':St}{ρ:Qq}(hS:fd M s=S') (g:@Yi ⟨.t ρ⟩ (Tells N s S')) (g2:@Yi ⟨h⟩ (Tm.T P N a K S')):@Yi ⟨.d M ρ h⟩ (Tm.T P N a K s):=T.XH g g2
theorem yj[StbC N K] {X β:Type}{n:Nat}{S:X->Ed}{S':X->St}{o:Option X}{f:X->Option β}{r:β}(hS:∀z,ed (S z) s=S' z)
 (ha:∀z,o=some z->True->@Yi ⟨h⟩ (Tm.T P N a (KJ N K S' (.inl z:X⊕Unit)) s)) (hb:Wh n (∀z,f z=some r->@Yi ⟨x⟩ (Tm.T P N b K (S' z)))) (e:o.bind f=some r):@Yi ⟨.j n S h x⟩ (Tm.T P N (.seq a b) K s):=
 jn S' e (λz c=>ha z c trivial) λz _ c=>hb.h z c
theorem ye[StbC N K] {X R:Type}{n:Nat}{S:X->Ed}{S':X->St}{o:Option (X⊕R)}{f:X⊕R->Option R}{r:R}{p:Prop}(k:p) (hS:∀z,ed (S z) s=S' z)
 (ha:∀z,o=some z->Lk Sum.inr z r p->@Yi ⟨h⟩ (Tm.T P N a (KJ N K S' z) s)) (hb:Wh n (∀z,f (.inl z)=some r->@Yi ⟨x⟩ (Tm.T P N b K (S' z)))) (hf:∀v,f (.inr v)=some v:=by intros;rfl) (e:o.bind f=some r):@Yi ⟨.e n S h x⟩ (Tm.T P N (.seq a b) K s):=by
 obtain⟨z,c,h2⟩:=Co e;refine T.join S' z (ha z c ⟨?_,k⟩) ?_
 .grind
 .rintro y rfl;exact hb.h y h2
theorem yl[StbC N K] {σ β R:Type}{n m id:Nat}{x0:σ}{step:σ->Option (Ex σ β R)}{S:σ->Ed}{B:β->Ed}{S':σ->St}{c:β->St}{f:β⊕R->Option R}{r:R}{p:Prop}{τ:Qq}(k:p)
 (hS:∀z,ed (S z) s=S' z) (hB:∀z,ed (B z) s=c z) (ht:@Yi ⟨.t τ⟩ (Tells N s (S' x0)))
 (ha:Lh n (∀q z,step q=some z->Lk Ex.ret z r p->@Yi ⟨h⟩ (Tm.T P N a (KL N id K S' c z) (S' q)))) (hb:Wh m (∀z,f (.inl z)=some r->@Yi ⟨x⟩ (K .normal (c z)))) (hf:∀v,f (.inr v)=some v:=by intros;rfl) (e:(da step x0).bind f=some r) :
 @Yi ⟨.l n m S B τ h x⟩ (Tm.T P N (.block id (.loop a)) K s):=by
 obtain⟨y,d,h2⟩:=Co e;refine lm d S' c ht (λq z g hv=>ha.h q z g ⟨?_,k⟩) ?_
 .grind
 .rintro b rfl;exact hb.h b h2
theorem yl'[StbC N K] {σ β R ρ:Type}{n m id:Nat}{x0:σ}{step:σ->Option (Ex σ β ρ)}{S:σ->Ed}{B:β->Ed}{S':σ->St}{c:β->St}{f:β⊕ρ->Option R}{r:R}{τ:Qq}
 (hS:∀z,ed (S z) s=S' z) (hB:∀z,ed (B z) s=c z) (ht:@Yi ⟨.t τ⟩ (Tells N s (S' x0)))
 (ha:Lh n (∀q z,step q=some z->True->@Yi ⟨h⟩ (Tm.T P N a (KL N id K S' c z) (S' q)))) (hb:Wh m (∀z,f (.inl z)=some r->@Yi ⟨x⟩ (K .normal (c z)))) (e:(da step x0).bind f=some r) :
 @Yi ⟨.l n m S B τ h x⟩ (Tm.T P N (.block id (.loop a)) K s):=by
 obtain⟨y,d,h2⟩:=Co e;refine lm d S' c ht (λq z g _=>ha.h q z g trivial) ?_;rintro b rfl;exact hb.h b h2
theorem yu[StbC N K] {σ R:Type}{n id:Nat}{x0:σ}{step:σ->Option (Ex σ Empty R)}{S:σ->Ed}{S':σ->St}{f:Empty⊕R->Option R}{r:R}{p:Prop}{τ:Qq}(k:p)
 (hS:∀z,ed (S z) s=S' z) (ht:@Yi ⟨.t τ⟩ (Tells N s (S' x0)))
 (ha:Lh n (∀q z,step q=some z->Lk Ex.ret z r p->@Yi ⟨h⟩ (Tm.T P N a (KL N id K S' (λq:Empty=>q.elim) z) (S' q)))) (hf:∀v,f (.inr v)=some v:=by intros;rfl) (e:(da step x0).bind f=some r) :
 @Yi ⟨.u n S τ h⟩ (Tm.T P N (.block id (.loop a)) K s):=by
 obtain⟨y,b,h2⟩:=Co e;refine lm b S' (λq:Empty=>q.elim) ht (λq z c hv=>ha.h q z c ⟨?_,k⟩) (λq=>q.elim)
 grind
theorem vw{n:Nat}{p:Prop}(h:p):Wh n p:=⟨h⟩
theorem vl{n:Nat}{p:Prop}(h:p):Lh n p:=⟨h⟩
theorem yT:@Yi ⟨h⟩ True:=trivial
end
section
variable {α β:Type} {e:α->D} {l r:List α} {i:Int} {y:α} {b:Nat} {g:List α->Option β} {z:β}
theorem bA[Enc α e] (h:(app b l r).bind g=some z):∃x,(l.length+r.length)*b<=2 ^ 47/\l.map e++r.map e=x.map e/\g x=some z:=by
 obtain⟨x,a,h2⟩:=Co h;exact⟨x,(eJ (e:=e) a).1,(eJ a).2,h2⟩
theorem bP[Enc α e] (h:(put l i y).bind g=some z):∃x,i.toNat<l.length/\(l.map e).set i.toNat (e y)=x.map e/\g x=some z:=by
 obtain⟨x,a,h2⟩:=Co h;exact⟨x,(kW (e:=e) a).1,(kW a).2,h2⟩
theorem bM[Enc α e] {n c:Int}(h:(Az b y n c).bind g=some z):∃x,0<=n/\n<=c/\c<=2 ^ 62/\c.toNat*b<=2 ^ 48/\Oaa n.toNat (e y)=x.map e/\g x=some z:=by
 obtain⟨x,a,h2⟩:=Co h;obtain⟨h3,h4,h5,h6,h7⟩:=iN (e:=e) a
 grind
theorem bZ(h:(wu l 0).bind g=some z):g []=some z:=by
 grind[wu]
theorem bH[Enc α e] (h:(wu l i).bind g=some z):∃x,0<=i/\i.toNat<=l.length/\(l.map e).take i.toNat=x.map e/\((l.map e).drop 0).take (i.toNat-0)=x.map e/\g x=some z:=by
 obtain⟨x,a,h2⟩:=Co h;obtain⟨h3,h4,h5⟩:=n4 (e:=e) a
 grind
theorem bL[Enc α e] (h:(TE l i).bind g=some z):∃x,0<=i/\i.toNat<=l.length/\i.toNat+x.length<=l.length/\l.length-i.toNat=x.length/\((l.map e).take l.length).drop i.toNat=x.map e/\((l.map e).drop i.toNat).take x.length=x.map e/\g x=some z:=by
 obtain⟨x,a,h2⟩:=Co h;obtain⟨h3,h4,h5,h6,h7⟩:=subl_o (e:=e) a
 grind[aQ]
theorem bQ{k:IntKind}{a c:Int}{g:Int->Option β}(h:(quo k a c).bind g=some z):∃x,¬c=0/\ca k (a.tdiv c)=x/\g x=some z:=by
 obtain⟨x,h1,h2⟩:=Co h
 grind[quo_f]
theorem bR{k:IntKind}{a c:Int}{g:Int->Option β}(h:(rem k a c).bind g=some z):∃x,¬c=0/\a.tmod c=x/\g x=some z:=by
 obtain⟨x,b,h2⟩:=Co h;exact⟨x,(M5 b).1,(M5 b).2,h2⟩
theorem bX{s:ByteArray}{i:Int}{g:Int->Option β}(h:(tu s i).bind g=some z):∃x,tu s i=some x/\g x=some z:=Co h
end
theorem cT{a b:Bool}(h:a=b):a=b:=h
variable {P:Program}
theorem eK{k:Nat}{ds:List D}{m:List Ent}{R:D->List Ent->Prop}{d2:D}{m2:List Ent}(h:CallT P k ds m R) (ht:∀d m',R d m'->Tells m.length ⟨[d],m'⟩ ⟨[d2],m2⟩):CallT P k ds m λd m'=>d=d2/\m'=m2:=by
 refine⟨h.1,λG w vs hv hi=>(h.2 G w vs hv hi).mono ?_⟩;rintro e w' ⟨v,d,m',G',rfl,o,hvd,b,p⟩;have hr:Rel G' w' { tmps:=#[v],defers:=[] } ⟨[d],m'⟩:=⟨by simp only[VsRel];simp_all,b,rfl⟩;have hN:m.length=G.n:=hi.n.symm;have c:=p.EX (Nat.le_of_eq hN);obtain⟨a,f,l⟩:=Ar (ht d m' o) c.n hr;have i:=f.t;simp only[VsRel]at i;obtain⟨u,us,he,j,_⟩:=i;injection he with he _;subst he;have g:=c.trans l;rw[hN]at g;exact⟨_,d2,m2,a,rfl,⟨rfl,rfl⟩,j,f.inv,g.toStep⟩
def EI(N:Nat) (rs:List RV) (S:St) (e:Exit) (s:St):Prop:=
 match e with
 |.normal=>∃S',Tells N s S'/\∃ds,Db S' rs=some ds/\Tells N ⟨[Bo ds],S'.m⟩ S
 |.ret=>∃S',Tells N s S'/\∃ds,Db S' rs=some ds/\Tells N ⟨[Bo ds],S'.m⟩ S
 |_=>False
def CM(N:Nat) (r:Option (List D)) (m:List Ent) (S:St):Prop:=∃ds,r=some ds/\Tells N ⟨[Bo ds],m⟩ S
theorem TJ{N:Nat}{rs:List RV}{S s:St}(h:CM N (Db s rs) s.m S):EI N rs S .ret s:=by
 obtain⟨ds,a,h2⟩:=h;exact⟨s,.refl s,ds,a,h2⟩
theorem W5{N:Nat}{rs:List RV}{S s:St}(h:CM N (Db s rs) s.m S):EI N rs S .normal s:=by
 obtain⟨ds,a,h2⟩:=h;exact⟨s,.refl s,ds,a,h2⟩
theorem Xv{N:Nat}{ds:List D}{m:List Ent}{S:St}:CM N (some ds) m S=Tells N ⟨[Bo ds],m⟩ S:=by simp[CM]
@[congr] theorem O7{N:Nat} {r a:Option (List D)} {m:List Ent} {S:St} (h:r=a):CM N r m S=CM N a m S:=by rw[h]
instance {N:Nat}{rs:List RV}{S:St}:StbC N (EI N rs S):=⟨by
 rintro s S' h ⟨S1,a,h2⟩;exact⟨S1,h.trans a,h2⟩⟩
theorem Lx{k:Nat}(KF:Kf P k) {ds:List D}{m m2:List Ent}{d2:D}(w:Nat) (hw:KF.F.ntmps=ds.length+w) (h:T P m.length KF.F.code (EI m.length KF.F.results ⟨[d2],m2⟩) ⟨ds++Tm.ds w [],m⟩):CallT P k ds m λd m'=>d=d2/\m'=m2:=by
 refine eK (R:=λd m'=>Tells m.length ⟨[d],m'⟩ ⟨[d2],m2⟩) (gk KF.ok KF.nm ?_) λ_ _ h=>h;rw[hw,Wac,←CC];refine T.iU (h.mono ?_);have key:∀(e:Exit) (s:St),(∀s',Yz KF.F.results (λd m'=>Tells m.length ⟨[d],m'⟩ ⟨[d2],m2⟩) e s' = ∃ds,Db s' KF.F.results=some ds/\Tells m.length ⟨[Bo ds],s'.m⟩ ⟨[d2],m2⟩)->(∃S',Tells m.length s S'/\∃ds,Db S' KF.F.results=some ds/\Tells m.length ⟨[Bo ds],S'.m⟩ ⟨[d2],m2⟩)->GL m.length (Yz KF.F.results λd m'=>Tells m.length ⟨[d],m'⟩ ⟨[d2],m2⟩) e s:=by
  intro e s he ⟨S,h1,h2⟩ G w a hN hr
  grind[Ar]
 intro e s b
 cases e with
 |normal=>exact key _ s (λ_=>rfl) b
 |ret=>exact key _ s (λ_=>rfl) b
 |_=>exact(b:False).elim
theorem OP{a:Int}{k:IntKind}:th .shr .u64 a k 1=some (.int .u64 (a.fdiv 2)):=by
 have h:((2 ^ (min (1:Int).toNat IntKind.u64.bits):Nat):Int)=2:=by decide
 grind[th]
def mL:List Int:=[31,28,31,30,31,30,31,31,30,31,30,31]
def e_mL(n:Int):D:=.v (.int .i64 n)
theorem q5{s:St}:s.ev (.global 2)=.pt (.agg (mL.map e_mL)):=Naa rfl rfl
theorem OU{n:Int}:e_mL n=.v (.int .i64 n):=Naa rfl rfl
def lst{α:Type}(l:List α):Option (List α):=some l
def mka{α:Type}(b:Nat) (z:α) (n:Int):Option (List α):=if 0<n/\n.toNat*b<=2 ^ 47 then some (Oaa n.toNat z)else none
def clrO{α:Type}(l:List α) (lo:Int) (v:List α) (z:α):Option (List α):=if 0<=lo/\lo.toNat+v.length<=l.length then some (l.take lo.toNat++Oaa v.length z++l.drop (lo.toNat+v.length))else none
section
variable {α β:Type} {e:α->D} {l v:List α} {i:Int} {y:α} {b:Nat} {g:List α->Option β} {z:β}
theorem bK[Enc α e] (h:(mka b y i).bind g=some z):∃x,0<i/\i.toNat*b<=2 ^ 47/\Oaa i.toNat (e y)=x.map e/\g x=some z:=by
 obtain⟨x,a,h2⟩:=Co h;unfold mka at a;split at a
 .rename_i hc;obtain rfl:=oab a;exact⟨_,hc.1,hc.2,List.map_replicate.symm,h2⟩
 simp_all
theorem bC[Enc α e] (h:(clrO l i v y).bind g=some z):∃x,(l.map e).take i.toNat++Oaa v.length (e y)++(l.map e).drop (i.toNat+v.length)=x.map e/\g x=some z:=by
 obtain⟨x,a,h2⟩:=Co h;unfold clrO at a;split at a
 .obtain rfl:=oab a;exact⟨_,by simp,h2⟩
 simp_all
theorem bV[Enc α e] (h:(lst l).bind g=some z):∃x,l.map e=x.map e/\g x=some z:=by
 obtain⟨x,a,h2⟩:=Co h;obtain rfl:=oab a
 grind
theorem bG{g:Int->Option β}(h:(idx mL i).bind g=some z):∃x,0<=i/\mL[i.toNat]?=some x/\i.toNat<12/\g x=some z:=bO h
theorem zn:type_of% (And.intro (And.intro @OP @q5) (And.intro @OU @ead)):=And.intro (And.intro @OP @q5) (And.intro @OU @ead)
end
def dY(P:Program) (k:Nat) (S:Nat) (l l':List D):Prop:=∀m id Pa,m[id]?=some (.live S Pa l)->CallT P k [.own id Pa] m λd m'=>d=.own id (Pa+1)/\m'=m.set id (.live S (Pa+1) l')
section
open Go.Sort
theorem BU{k:FuncId}(f:Enters P k) {zs ys:List Int}(a:ys.length<=zs.length)
 (d:∀w b off cap,Holds (Value.int .i64) w b off zs.toArray->zs.length<=cap->Calls P k #[.slice (some ⟨b,off,none⟩) zs.length cap] w λe w'=>e=.returned (.slice (some ⟨b,off,none⟩) ys.length cap)/\∃n xs,xs.length+ys.length=zs.length/\w'=grow (putRow (Value.int .i64) (Sort.ahead w n) b off (ys++xs).toArray) #[])
 (c:∀w cap,Calls P k #[.slice none 0 cap] w λe w'=>e=.returned (.slice none 0 cap)/\w'=w):dY P k 1 (zs.map eI) (ys.map eI):=
 λm id Pa hm=>dO f hm a d c
end
section
variable {h:Hi} {k id S Pa:Nat} {p:Prop} {pre post l l' ds:List D} {o:D} {m:List Ent} {f:D->List Ent->Prop}
theorem ycA[c:Con p (dY P k S l l')] (e:p) (hf:@Yi ⟨h⟩ (f (.own id (Pa+1)) (m.set id (.live S (Pa+1) l')))) (hm:m[id]?=some (.live S Pa l)):@Yi ⟨h⟩ (ef P k [.own id Pa] m f):=Vb (c.h e m id Pa hm) hf
theorem ycf{d d':D}{q:List D} [c:Con p (Den P k ([d']++q) o)] (e:p) (hq:ia q=true) (hf:@Yi ⟨h⟩ (f o m)) (a:Sq [] [] 9 d d'):@Yi ⟨h⟩ (ef P k (d::q) m f):=WT (c.h e) hq hf a
theorem ycC[c:Con p (mE P k pre post S l o)] (e:p) (hf:@Yi ⟨h⟩ (f o (m.set id .gone))) (a:ds=pre++.own id Pa::post) (hm:m[id]?=some (.live S Pa l)):@Yi ⟨h⟩ (ef P k ds m f):=QP (c.h e) a hm hf
theorem ycW[c:Con p (qT P k pre post S l l' o)] (e:p) (hf:@Yi ⟨h⟩ (f o (m.set id (.live S Pa l')))) (a:ds=pre++.own id Pa::post) (hm:m[id]?=some (.live S Pa l)):@Yi ⟨h⟩ (ef P k ds m f):=yY (c.h e) a hm hf
end
def St.hd(s:St):D:=s.t.headD .dead
theorem yi{X β:Type}{h x:Hi}{k:Nat}{KF:Kf P k}{n w:Nat}{S:X->Ed}{d2:X->D}{m2:X->List Ent}{m:List Ent}{ds:List D}{f:D->List Ent->Prop}{o:Option X}{g:X->Option β}{r:β}
 (hS:∀z,ed (S z) ⟨[.dead],m⟩=⟨[d2 z],m2 z⟩) (hw:KF.F.ntmps=ds.length+w)
 (ha:∀z,o=some z->True->@Yi ⟨h⟩ (T P m.length KF.F.code (EI m.length KF.F.results ⟨[d2 z],m2 z⟩) ⟨ds++Tm.ds w [],m⟩))
 (hb:Wh n (∀z,g z=some r->@Yi ⟨x⟩ (f (d2 z) (m2 z)))) (e:o.bind g=some r):@Yi ⟨.i KF n w S h x⟩ (ef P k ds m f):=by
 obtain⟨z,a,h2⟩:=Co e;exact Vb (Lx KF w hw (ha z a trivial)) (hb.h z h2)
theorem gi0{X:Type}{h x:Hi}{k j:Nat}{KF:Kf P j}{n w:Nat}{S:X->Ed}{m:List Ent}{ds:List D}{f:D->List Ent->Prop}(g:@Yi ⟨.i KF n w S h x⟩ (ef P k ds m f)):@Yi ⟨.i KF n w S h x⟩ (ef P k ds m f):=g
structure Ck (p q:Prop):Prop where
 h:p
 k:q
instance {N:Nat}{K:Exit->St->Prop}:StbC N (GL N K):=⟨by
 intro s S h k G w a hN hr;obtain⟨b,d,h2⟩:=Ar h hN hr;obtain⟨s',c,e,f,g⟩:=k b w a h2.n d;exact⟨s',c,e,f,h2.trans g⟩⟩
def NY(r:Option (List D)) (f:D->List Ent->Prop) (m:List Ent):Prop:=∃ds,r=some ds/\f (Bo ds) m
theorem RR{ds:List D}{f:D->List Ent->Prop}{m:List Ent}:NY (some ds) f m=f (Bo ds) m:=by simp[NY]
theorem yc{X β:Type}{h:Hi}{k:Nat}{KF:Kf P k}{w:Nat}{m:List Ent}{ds:List D}{f:D->List Ent->Prop}{o:Option X}{g:X->Option β}{r:β}{q:Prop}(b:q) (hw:KF.F.ntmps=ds.length+w)
 (ha:∀z,o=some z->Ck (g z=some r) q->@Yi ⟨h⟩ (T P m.length KF.F.code (GL m.length (Yz KF.F.results f)) ⟨ds++Tm.ds w [],m⟩)) (e:o.bind g=some r):@Yi ⟨.c KF w h⟩ (ef P k ds m f):=by
 obtain⟨z,a,h2⟩:=Co e;refine gk KF.ok KF.nm ?_;rw[hw,Wac,←CC];exact T.iU (ha z a ⟨h2,b⟩)
theorem gc0{h:Hi}{k j:Nat}{KF:Kf P j}{w:Nat}{m:List Ent}{ds:List D}{f:D->List Ent->Prop}(g:@Yi ⟨.c KF w h⟩ (ef P k ds m f)):@Yi ⟨.c KF w h⟩ (ef P k ds m f):=g
theorem gv{x:Hi}{p:Prop}(g:@Yi ⟨.v x⟩ p):@Yi ⟨.v x⟩ p:=g
theorem yvr{x:Hi}{M:Nat}{rs:List RV}{f:D->List Ent->Prop}{s:St}(g:@Yi ⟨x⟩ (NY (Db s rs) f s.m)):@Yi ⟨.v x⟩ (GL M (Yz rs f) .ret s):=by
 obtain⟨ds,a,h2⟩:=g;exact GL.of (show Yz rs f .ret s from⟨ds,a,h2⟩)
theorem yvn{x:Hi}{M:Nat}{rs:List RV}{f:D->List Ent->Prop}{s:St}(g:@Yi ⟨x⟩ (NY (Db s rs) f s.m)):@Yi ⟨.v x⟩ (GL M (Yz rs f) .normal s):=by
 obtain⟨ds,a,h2⟩:=g;exact GL.of (show Yz rs f .normal s from⟨ds,a,h2⟩)
theorem yno{α:Type}{r:α}{p:Prop}(h:none=some r):p:=nomatch h
theorem yrr{h:Hi}{K:Exit->St->Prop}{s:St}{N:Nat}(g:@Yi ⟨h⟩ (K .ret s)):@Yi ⟨h⟩ (Tm.T P N .ret K s):=T.ret g
theorem yrI{N:Nat}{h:Hi}{rs:List RV}{S s:St}(g:@Yi ⟨h⟩ (CM N (Db s rs) s.m S)):@Yi ⟨h⟩ (EI N rs S .ret s):=TJ g
theorem ynI{N:Nat}{h:Hi}{rs:List RV}{S s:St}(g:@Yi ⟨h⟩ (CM N (Db s rs) s.m S)):@Yi ⟨h⟩ (EI N rs S .normal s):=W5 g
class FrO (d:D):Prop where
 h:oa d=true
instance {α:Type}{e:α->D} [Fr e] {x:α}:FrO (e x):=⟨Fr.h x⟩
instance {l:List D} [FrL l]:FrO (.tup l):=⟨FrL.h⟩
def dep:Nat->D->Bool
 |0,_=>false
 |k+1,.agg l=>l.all (dep k)
 |k+1,.tup l=>l.all (dep k)
 |_+1,.sl _ _=>true
 |k+1,.pt d=>dep k d
 |_+1,.v _=>true
 |_,_=>false
theorem Wx(m:List Ent):∀{k:Nat}{d:D},oa d=true->dep k d=true->cf k m d=d
 |0,_,_,h=>by grind[dep]
 |k+1,.agg l,a,h2=>by
  simp only[dep,Nab]at h2;simp only[oa,cj]at a;simp only[cf];congr 1;exact(Kac λd hd=>Wx m (a d hd) (h2 d hd)).trans (Jae _)
 |k+1,.tup l,a,h2=>by
  simp only[dep,Nab]at h2;simp only[oa,cj]at a;simp only[cf];congr 1;exact(Kac λd hd=>Wx m (a d hd) (h2 d hd)).trans (Jae _)
 |_+1,.sl _ l,a,_=>by
  simp_all[oa,cf]
 |k+1,.pt d,a,h2=>by
  simp only[dep]at h2;simp only[oa]at a;simp only[cf,Wx m a h2]
 |_+1,.v _,_,_=>rfl
 |k+1,.own ..,_,h=>by grind[dep]
 |k+1,.view ..,_,h=>by grind[dep]
 |k+1,.ref ..,_,h=>by grind[dep]
 |k+1,.fn ..,_,h=>by grind[dep]
 |k+1,.mp ..,_,h=>by grind[dep]
 |k+1,.ifc ..,_,h=>by grind[dep]
 |k+1,.dead,_,h=>by grind[dep]
theorem wH{id Pa:Nat}:∀{l:List D},ia l=true->l.map (fE id Pa)=l
 |[],_=>rfl
 |d::l,h=>by
  simp only[ia,Vaa]at h;rw[xab,wH h.2];congr 1;have h1:=h.1;cases d<;>simp_all[fE,oa]
def UQ(P:Program) (k:Nat) (pre post:List D) (S:Nat) (l l':List D) (o:D):Prop:=ia pre=true/\ia post=true/\∀m id Pa,m[id]?=some (.live S Pa l)->CallT P k (pre++.ref id Pa 0 0::post) m λd m'=>d=o/\m'=m.set id (.live S Pa l')
theorem UQ.of{k:Nat}{pre post:List D}{S:Nat}{l l':List D}{o:D}(n:Nat) (K:Kf P k) (h:T P 1 K.F.code (EI 1 K.F.results ⟨[o],[.live S 0 l']⟩) ⟨(pre++.ref 0 0 0 0::post)++Tm.ds n [],[.live S 0 l]⟩)
 (c:ia pre=true:=by exact FrL.h) (a:ia post=true:=by exact FrL.h) (hl:ia l=true:=by exact FrL.h) (ho:oa o=true:=by exact FrO.h) (f:ia l'=true:=by exact FrL.h) (hd:dep 8 o=true:=by rfl) (b:l'.all (dep 8)=true:=by rfl)
 (hn:K.F.ntmps=(pre++.ref 0 0 0 0::post).length+n:=by rfl):UQ P k pre post S l l' o:=by
 refine⟨c,a,λm id Pa e=>?_⟩;have h1:=Lx K n hn (m:=[.live S 0 l]) (m2:=[.live S 0 l']) (d2:=o) h;have g:(pre++.ref id Pa 0 0::post).map (fE id Pa)=pre++.ref 0 0 0 0::post:=by
  simp_all[fE,wH]
 refine(VT e hl (m1:=[.live S 0 l']) rfl (by rw[g];omega)).mono ?_;rintro d m' ⟨rfl,rfl⟩;refine⟨Wx _ ho hd,?_⟩;congr 2;rw[Nab]at b;exact(Kac λd hd=>Wx _ (cj.1 f d hd) (b d hd)).trans (Jae _)
theorem ycE{pre post:List D}{S id Pa k:Nat}{l l' ds:List D}{o:D}{m:List Ent}{f:D->List Ent->Prop}{h:Hi}{p:Prop} [c:Con p (UQ P k pre post S l l' o)] (e:p) (hf:@Yi ⟨h⟩ (f o (m.set id (.live S Pa l')))) (a:ds=pre++.ref id Pa 0 0::post) (hm:m[id]?=some (.live S Pa l)):@Yi ⟨h⟩ (ef P k ds m f):=by
 subst a;exact Vb ((c.h e).2.2 m id Pa hm) hf
theorem gce{h:Hi}{k:FuncId}{ds:List D}{ids:List Nat}{fp:List (List Nat)}{p:List Nat}{x:Nat}{f:D->Ent->Prop}{s:St}(g:@Yi ⟨h⟩ (CD P k ds ids fp p x f s)):@Yi ⟨h⟩ (CD P k ds ids fp p x f s):=g
theorem ywE{pre post:List D}{S Pa k:Nat}{l l' ds:List D}{o:D}{h:Hi}{q:Prop}{ids:List Nat}{fp:List (List Nat)}{p:List Nat}{x:Nat}{f:D->Ent->Prop}{s:St} [c:Con q (UQ P k pre post S l l' o)] (e:q) (hf:@Yi ⟨h⟩ (f o (.live S Pa l')))
 (a:ds=pre++.ref x Pa 0 0::post) (hm:s.m[x]?=some (.live S Pa l)) (hx:(ids.elem x&&FA fp ids p)=true) (hi:ids=[x]):@Yi ⟨h⟩ (CD P k ds ids fp p x f s):=by
 subst a;subst hi;have hlt:x<s.m.length:=(yab.1 hm).1;refine⟨hx,o,_,⟨λid hid=>by simp_all,λm hmm=>?_⟩,hf⟩;exact(c.h e).2.2 m x Pa (by simp_all)
theorem ydp{h:Hi}{N:Nat}{q:Nat}{l:List RI}{K:Exit->St->Prop}{s:St}{ps:List (List Nat)}{pl:List (Option Nat)}(hm:P.follows .mixedOrders=true) (c:ps=Hx q) (a:Uz pl l=true) (b:Ds s.m pl=true) (g:@Yi ⟨h⟩ (Ug P pl ps q l (K .normal) [] s)):@Yi ⟨.g ps pl h⟩ (Tm.T P N (.draw q l) K s):=T.dp hm ps pl c a b g
def xT(m:List Ent):D->D->Prop
 |.agg a,.agg b=>xD (Lq m) a b
 |d,e=>Lq m d e
def MN(ids:List Nat) (ds:List D):Bool:=ds.all λd=>match d with|.agg a=>lE ids a|d=>lE ids [d]
theorem uQ{m m':List Ent}{ids:List Nat}(hm:∀id∈ids,m'[id]?=m[id]?):∀{a b:List D},xD (xT m) a b->MN ids a=true->Sbs [] m' a b
 |[],[],_,_=>.nil
 |d::l,e::r,h,ht=>by
  simp only[MN,lac,Vaa]at ht;have i:=uQ hm h.2 (by grind[MN]);have c:=h.1;have f:=ht.1;unfold xT at c;split at c
  .exact .agg (jF hm c f) i
  .rename_i hne;have g:lE ids [d]=true:=by
    grind[lE,Xd]
   exact Sbs.app (a:=[d]) (b:=[e]) (jF hm ⟨c,trivial⟩ g) i
 |[],_::_,h,_=>h.elim
 |_::_,[],h,_=>h.elim
theorem UT{k:Nat}{ids:List Nat}{ds a:List D}{o:D}{R:St->Prop}{s:St}{dst:Option Tmp}(h:Den P k a o) (hf:R (s.put dst o)) (b:flat o=true) (hi:(ids.all λi=>decide (i<s.m.length))=true) (ht:MN ids ds=true) (c:xD (xT s.m) ds a):Uw P k ds ids R s dst:=by
 refine⟨o,⟨λid hid=>?_,λm hm=>?_⟩,hf⟩
 .simp_all
 .exact dA h (uQ hm c ht) b ⟨rfl,rfl⟩
theorem ylw{k:Nat}{h:Hi}{s:St}{p:Prop}{ids:List Nat}{ds a:List D}{o:D}{R:St->Prop}{dst:Option Tmp} [c:Con p (Den P k a o)] (e:p) (hf:@Yi ⟨h⟩ (R (s.put dst o))) (b:flat o=true) (hi:(ids.all λi=>decide (i<s.m.length))=true) (ht:MN ids ds=true) (d:xD (xT s.m) ds a):@Yi ⟨h⟩ (Uw P k ds ids R s dst):=UT (c.h e) hf b hi ht d
section
variable {m:List Ent} {S x y lo n s:Nat} {a b:List D} {e:D}
theorem tV:xT m (.agg a) (.agg b)=xD (Lq m) a b:=Naa rfl rfl
theorem uV:xT m (.own x y) (.sl S b)=Lq m (.own x y) (.sl S b):=Naa rfl rfl
theorem oQ:xT m (.view x y lo n) (.sl S b)=Lq m (.view x y lo n) (.sl S b):=Naa rfl rfl
theorem vV{z:Nat}:xT m (.ref x y z s) (.pt e)=Lq m (.ref x y z s) (.pt e):=Naa rfl rfl
theorem l2_v{z:Value}:xT m (.v z) e=Lq m (.v z) e:=by cases e<;>rfl
theorem A5{z:List D}:xT m (.sl S z) e=Lq m (.sl S z) e:=by cases e<;>rfl
theorem y5{z:D}:xT m (.pt z) e=Lq m (.pt z) e:=by cases e<;>rfl
theorem zw:type_of% (And.intro (And.intro (And.intro @tV @uV) (And.intro @oQ @vV)) (And.intro (And.intro @l2_v @A5) @y5)):=And.intro (And.intro (And.intro @tV @uV) (And.intro @oQ @vV)) (And.intro (And.intro @l2_v @A5) @y5)
end
end Go.Tm
