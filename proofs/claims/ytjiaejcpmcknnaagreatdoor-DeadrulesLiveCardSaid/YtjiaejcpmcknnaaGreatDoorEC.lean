/-
  The engine: a part of the proof that trees of values are carried along by the program: no condition.
-/
import Derived.Test.YtjiaejcpmcknnaaGreatDoorEB
import Derived.ProofKit
import Derived.OpenShut
import Derived.WideShapes
import Derived.Lib.LaidTab
import Derived.SizedLaws
import Derived.Sort.Row
import Derived.Sort.Grow
import Derived.KernelRfl
open Bool renaming and_eq_true->Sac,and_true->Xac,true_and->Lad
open Classical renaming not_not->qad
open Eq renaming trans->Mac
open List renaming all_cons->sae,all_eq_true->Kad,append_nil->vad,cons_append->mad,contains_iff_mem->Zac,drop_drop->Taf,drop_zero->oaf,eq_nil_of_length_eq_zero->gad,ext_getElem?->rae,foldlM->eah,getD_cons_succ->Cad,getD_cons_zero->Pad,getElem?_cons_succ->aae,getElem?_cons_zero->Mad,getElem?_eq_getElem->Lac,getElem?_eq_some_iff->oad,getElem_mem->Qac,length_cons->rad,length_map->bae,length_nil->cae,map_congr_left->Bae,map_cons->Bad,map_id->Qag,map_nil->Vae,mem_append->wad,mem_cons->Wad,mem_map_of_mem->rag,nil_append->Yad,replicate->Nac,replicate_succ->kae,replicate_zero->qaf,take_length->dae,take_of_length_le->fag
open Nat renaming add_sub_cancel_left->Zae,le_refl->cad,lt_or_ge->Gae,lt_succ_self->cag,not_lt_zero->lag,sub_zero->gaf,zero_add->oae,zero_le->Sad,zero_lt_succ->Jag
open Option renaming bind_eq_some_iff->vae,map_eq_some_iff->Oac,map_some->qae
open Option.some renaming inj->nad,injEq->Aad
open Prod renaming fst->yag
open Prod.mk renaming injEq->lad
set_option linter.all false
namespace Go.Tm
inductive W where
 |c (c:C)
 |l (l:List RI)
 |an (q:Nat) (bs:List (List Nat)) (l:List RI)
 |yo (pl:List (Option Nat)) (ps fp:List (List Nat)) (q:Nat) (l:List RI)
 |f (k:Nat) (ds:List D)
 |p (k:Nat) (ds:List D)
 |q (k:Nat) (ds:List D)
 |w (p k:Nat) (ds:List D)
section
variable {P:Program} {FT:Nat->Option (Fun×Nat)} {O:Nat->List D->Option D}
end
variable {α:Type}
noncomputable section
def cG(k:IntKind):Int:=
 match k with
 |.i8=>256|.i16=>65536|.i32=>4294967296|.i64=>18446744073709551616
 |.u8=>256|.u16=>65536|.u32=>4294967296|.u64=>18446744073709551616
theorem UO(k:IntKind):cG k=2 ^ k.bits:=by cases k<;>rfl
def SI(n h m:Int):Int:=bif decide (n % m>=h)then n % m-m else n % m
def ca(k:IntKind) (n:Int):Int:=
 match k with
 |.i8=>SI n 128 256
 |.i16=>SI n 32768 65536
 |.i32=>SI n 2147483648 4294967296
 |.i64=>SI n 9223372036854775808 18446744073709551616
 |.u8=>n % 256
 |.u16=>n % 65536
 |.u32=>n % 4294967296
 |.u64=>n % 18446744073709551616
theorem Mv(k:IntKind) (n:Int):ca k n=k.wrap n:=by
 cases k<;>simp[ca,SI,IntKind.wrap,IntKind.bits,IntKind.signed,cond_eq_ite]
def HD(op:Nat->Nat->Nat) (k:IntKind) (x y:Int):Value:=.int k (ca k (op (x % cG k).toNat (y % cG k).toNat:Nat))
theorem PQ(k:IntKind) (x:Int):(BitVec.ofInt k.bits x).toNat=(x % cG k).toNat:=by
 rw[BitVec.toNat_ofInt,UO];norm_cast
def oh(op:BinOp) (j:IntKind) (a:Int) (k:IntKind) (b:Int):Option Value:=
 match op with
 |.add=>bif decide (j=k)then some (.int j (ca j (a+b)))else none
 |.sub=>bif decide (j=k)then some (.int j (ca j (a-b)))else none
 |.mul=>bif decide (j=k)then some (.int j (ca j (a*b)))else none
 |.eql=>bif decide (j=k)then some (.bool (a==b))else none
 |.neq=>bif decide (j=k)then some (.bool (a !=b))else none
 |.lss=>bif decide (j=k)then some (.bool (decide (a<b)))else none
 |.leq=>bif decide (j=k)then some (.bool (decide (a<=b)))else none
 |.gtr=>bif decide (j=k)then some (.bool (decide (b<a)))else none
 |.geq=>bif decide (j=k)then some (.bool (decide (b<=a)))else none
 |.and=>bif decide (j=k)then some (HD Nat.land j a b)else none
 |.or=>bif decide (j=k)then some (HD Nat.lor j a b)else none
 |.xor=>bif decide (j=k)then some (HD Nat.xor j a b)else none
 |.quo=>bif decide (j=k)&&!decide (b=0)then some (.int j (ca j (a.tdiv b)))else none
 |.rem=>bif decide (j=k)&&!decide (b=0)then some (.int j (a.tmod b))else none
 |.shl=>bif decide (b<0)then none else some (.int j (ca j (a*((2 ^ (min b.toNat j.bits):Nat):Int))))
 |.shr=>bif decide (b<0)then none else some (.int j (a.fdiv ((2 ^ (min b.toNat j.bits):Nat):Int)))
 |op=>sg (binOp op 0 (.int j a) (.int k b))
theorem JW(op:BinOp) (j:IntKind) (a:Int) (k:IntKind) (b:Int):oh op j a k b=sg (binOp op 0 (.int j a) (.int k b)):=by
 have hst:∀{α:Type} (x:String),sg (stuck x:Sem α)=none:=λ_=>rfl;have hp:∀{α:Type} (x:α),sg (pure x:Sem α)=some x:=λ_=>rfl;have hrt:∀{α:Type} x,sg (runtimePanic x:Sem α)=none:=λ_=>rfl;cases op
 case shl=>
  simp only[oh,binOp,Op.shift,cond_eq_ite,decide_eq_true_eq];split<;>simp[hst,hp,hrt,Mv]
 case shr=>
  simp only[oh,binOp,Op.shift,cond_eq_ite,decide_eq_true_eq];split<;>simp[hst,hp,hrt]
 all_goals
  by_cases hjk:j=k
  .subst hjk;simp[oh,binOp,Op.intArith,Op.intCmp,Op.intBits,Op.intDiv,hst,hp,hrt,Mv,HD,PQ,UO];(try rfl);(try (split<;>simp[hst,hp,hrt,Mv, *]))
  .simp[oh,binOp,hjk,hst]
section
variable {FT:Nat->Option (Fun×Nat)} {O:Nat->List D->Option D}
variable {P:Program}
end
end
variable {P:Program} {N:Nat}
def lp(r:Option (D×List Ent)) (f:D->List Ent->Prop):Prop:=
 match r with
 |some p=>f p.1 p.2
 |none=>False
@[congr] theorem L3{r r':Option (D×List Ent)} {f:D->List Ent->Prop} (h:r=r'):lp r f=lp r' f:=by rw[h]
theorem CP(d:D) (m:List Ent) (f:D->List Ent->Prop):lp (some (d,m)) f=f d m:=Mac rfl rfl
theorem Cl(r:Option (D×List Ent)) (f:D->List Ent->Prop):lp r f↔∃d m',r=some (d,m')/\f d m':=by
 cases r with
 |none=>simp[lp]
 |some p=>
  obtain⟨d,m⟩:=p;simp only[lp];exact⟨λh=>⟨d,m,rfl,h⟩,λ⟨_,_,h1,h2⟩=>by injection h1 with h1;injection h1 with h1 h3;rw[h1,h3];exact h2⟩
def af(P:Program) (k:Nat) (ds:List D) (m:List Ent) (f:D->List Ent->Prop):Prop:=CallT P k ds m f
@[congr] theorem M0{k k':Nat} {ds ds':List D} {m m':List Ent} {f:D->List Ent->Prop} (h1:k=k') (h2:ds=ds') (h3:m=m'):af P k ds m f=af P k' ds' m' f:=by rw[h1,h2,h3]
theorem pv{k:Nat}{ds:List D}{m:List Ent}{R f:D->List Ent->Prop}(h:CallT P k ds m R) (hR:∀d m',R d m'->f d m'):af P k ds m f:=h.mono hR
theorem Ub{k:Nat}{ds:List D}{m m1:List Ent}{d1:D}{f:D->List Ent->Prop}(h:CallT P k ds m λd m'=>d=d1/\m'=m1) (hf:f d1 m1):af P k ds m f:=
 h.mono λd m' ⟨h1,h2⟩=>by rw[h1,h2];exact hf
theorem sa.cons{d e:D}{l r:List D}(h1:Sub d e) (h2:sa l r):sa (d::l) (e::r):=by
 simp only[sa];exact⟨e,r,rfl,h1,h2⟩
theorem Sub.ob(d:D):Sub d .dead:=by cases d<;>simp[Sub]
variable {P:Program} {N:Nat}
def gP(p Y N:Prop):Prop:=(p->Y)/\(¬p->N)
theorem oaa{Y N:Prop}:gP True Y N=Y:=by simp[gP]
theorem naa{Y N:Prop}:gP False Y N=N:=by simp[gP]
@[congr] theorem paa{p p' Y N:Prop} (h:p=p'):gP p Y N=gP p' Y N:=by rw[h]
theorem gP.mk{p Y N:Prop}(h1:p->Y) (h2:¬p->N):gP p Y N:=⟨h1,h2⟩
def Xw(s:St) (g:Option (Tmp×Bool)) (b:Bool):St:=
 match g with
 |none=>s
 |some (t,_)=>
  match s.t.getD t .dead with
  |.v (.bool _)=>{ s with t:=s.t.set t (.v (.bool b)) }
  |_=>s
theorem xB{l:List D}{t:Nat}{d:D}(h:l.getD t .dead=d) (hd:d≠.dead):l.set t d=l:=by
 apply rae
 grind
theorem cP{s:St}{g:Option (Tmp×Bool)}{c b:Bool}(hg:gate s g=some (some (c,b))) (e:c=b):Xw s g b=s:=by
 unfold Xw
 cases g with
 |none=>rfl
 |some p=>
  obtain⟨t,b'⟩:=p;simp only;split
  all_goals simp_all[gate,xB]
theorem AU{s:St}{g:Option (Tmp×Bool)}{c b:Bool}(hg:gate s g=some (some (c,b))) (e:c≠b):Xw s g (!b)=s:=by
 unfold Xw
 cases g with
 |none=>rfl
 |some p=>
  obtain⟨t,b'⟩:=p;simp only;split
  .rename_i x hx;simp only[gate,hx]at hg;injection hg with hg;injection hg with hg;injection hg with h1 h2;subst h1 h2;have:x = !b':=by cases x<;>cases b'<;>simp_all
   simp_all[xB]
  .rfl
def KO(R:St->Prop) (s:St) (dst:Option Tmp) (d:D) (m':List Ent):Prop:=R ({ s with m:=m' }.put dst d)
def Zg(P:Program):List RI->(St->Prop)->St->Prop
 |[],K,s=>K s
 |.op dst g i::l,K,s=>
  match gate s g with
  |none=>False
  |some none=>lp (fa s i) (KO (Zg P l K) s dst)
  |some (some (c,b))=>gP (c=b) (lp (fa (Xw s g b) i) (KO (Zg P l K) (Xw s g b) dst)) (Zg P l K ((Xw s g (!b)).put dst (.v undef)))
 |.call dst g f args::l,K,s=>
  match s.ec f with
  |.fn k first caps=>
   match gate s g with
   |none=>False
   |some none=>af P k (first++args.map s.ev++caps) s.m (KO (Zg P l K) s dst)
   |some (some (c,b))=>gP (c=b) (af P k (first++args.map (Xw s g b).ev++caps) s.m (KO (Zg P l K) (Xw s g b) dst)) (Zg P l K ((Xw s g (!b)).put dst (.v undef)))
  |_=>False
theorem Cs:∀{l:List RI}{K:St->Prop}{s:St},Zg P l K s->Aj P l K s
 |[],K,s,h=>h
 |.op dst g i::l,K,s,h=>by
  simp only[Zg]at h;simp only[Aj];split at h
  .simp_all
  .rename_i hg;rw[hg];obtain⟨d,m',h1,h2⟩:=(Cl _ _).1 h;exact⟨d,m',h1,Cs h2⟩
  .rename_i c b hg;rw[hg];refine⟨λe=>?_,λe=>?_⟩
   .have h:=h.1 e;rw[cP hg e]at h;obtain⟨d,m',h1,h2⟩:=(Cl _ _).1 h;exact⟨d,m',h1,Cs h2⟩
   .have h:=h.2 e;rw[AU hg e]at h;exact Cs h
 |.call dst g f args::l,K,s,h=>by
  simp only[Zg]at h;simp only[Aj];split at h
  .rename_i k first caps hf
   rw[hf];split at h
   .simp_all
   .rename_i hg;rw[hg];exact h.mono λ_ _ h2=>Cs h2
   .rename_i c b hg;rw[hg];refine⟨λe=>?_,λe=>?_⟩
    .have h:=h.1 e;rw[cP hg e]at h;exact h.mono λ_ _ h2=>Cs h2
    .have h:=h.2 e;rw[AU hg e]at h;exact Cs h
  simp_all
def Ov(P:Program):Nat->List RI->(St->Prop)->St->Prop
 |0,l,K,s=>Zg P l K s
 |_+1,[],_,_=>False
 |q+1,.op dst g i::l,K,s=>
  match gate s g with
  |none=>False
  |some none=>lp (fa s i) (KO (Ov P q l K) s dst)
  |some (some (c,b))=>gP (c=b) (lp (fa s i) (KO (Ov P q l K) s dst)) (Ov P q l K (s.put dst (.v undef)))
 |q+1,.call dst g f args::l,K,s=>
  match s.cv f with
  |.fn k first caps=>
   match gate s g with
   |none=>False
   |some none=>∃d,(∀m,CallT P k (first++args.map s.ev++caps) m λd' m'=>d'=d/\m'=m)/\Ov P q l K (s.put dst d)
   |some (some (c,b))=>(c=b->∃d,(∀m,CallT P k (first++args.map s.ev++caps) m λd' m'=>d'=d/\m'=m)/\Ov P q l K (s.put dst d))/\(c≠b->Ov P q l K (s.put dst (.v undef)))
  |_=>False
theorem dF:∀{q:Nat}{l:List RI}{K:St->Prop}{s:St},Ov P q l K s->sK P q l K s
 |0,l,K,s,h=>by simp only[Ov]at h;simp only[sK];exact Cs h
 |_+1,[],K,s,h=>by simp only[Ov]at h
 |q+1,.op dst g i::l,K,s,h=>by
  simp only[Ov]at h;simp only[sK];split at h
  .simp_all
  .rename_i hg;rw[hg];obtain⟨d,m',h1,h2⟩:=(Cl _ _).1 h;exact⟨d,m',h1,dF h2⟩
  .rename_i c b hg;rw[hg];refine⟨λe=>?_,λe=>dF (h.2 e)⟩;obtain⟨d,m',h1,h2⟩:=(Cl _ _).1 (h.1 e);exact⟨d,m',h1,dF h2⟩
 |q+1,.call dst g f args::l,K,s,h=>by
  simp only[Ov]at h;simp only[sK];split at h
  .rename_i k first caps hf
   rw[hf];split at h
   .simp_all
   .rename_i hg;rw[hg];obtain⟨d,h1,h2⟩:=h;exact⟨d,h1,dF h2⟩
   .rename_i c b hg;rw[hg];refine⟨λe=>?_,λe=>dF (h.2 e)⟩;obtain⟨d,h1,h2⟩:=h.1 e;exact⟨d,h1,dF h2⟩
  simp_all
def C.qE:C->Bool
 |.loop _=>true
 |.any ..=>true
 |.seq a b=>a.qE || b.qE
 |.cond _ a b=>a.qE || b.qE
 |.block _ a=>a.qE
 |_=>false
def C.Vk:C->Bool
 |.loop _=>true
 |_=>false
theorem LP{f:FuncId}{ds ds':List D}{m:List Ent}{R:D->List Ent->Prop}(hs:sa ds ds') (h:CallT P f ds' m R):CallT P f ds m R:=
 ⟨h.1,λG w vs hv hi=>h.2 G w vs (hs.rel hv) hi⟩
def KS(P:Program) (N:Nat) (b:C) (K:Exit->St->Prop) (e:Exit) (s':St):Prop:=match e with|.normal=>Tm.T P N b K s'|e=>K e s'
theorem zP{b:C}{K:Exit->St->Prop}{s:St}:KS P N b K .normal s=Tm.T P N b K s:=Mac rfl rfl
theorem zW{b:C}{K:Exit->St->Prop}{s:St}{i:Nat}:KS P N b K (.exit i) s=K (.exit i) s:=Mac rfl rfl
theorem Z2{b:C}{K:Exit->St->Prop}{s:St}:KS P N b K .ret s=K .ret s:=Mac rfl rfl
def KZ(R:St->Prop) (K:Exit->St->Prop) (e:Exit) (s':St):Prop:=match e with|.normal=>R s'|e=>K e s'
def KB(id:Nat) (K:Exit->St->Prop) (e:Exit) (s':St):Prop:=match e with|.exit id'=>if id'=id then K .normal s' else K (.exit id') s'|e=>K e s'
theorem yP{id:Nat}{K:Exit->St->Prop}{s:St}:KB id K .normal s=K .normal s:=Mac rfl rfl
theorem vW{id:Nat}{K:Exit->St->Prop}{s:St}{i:Nat}:KB id K (.exit i) s=if i=id then K .normal s else K (.exit i) s:=Mac rfl rfl
theorem U2{id:Nat}{K:Exit->St->Prop}{s:St}:KB id K .ret s=K .ret s:=Mac rfl rfl
@[congr] theorem T_congr{c:C} {K:Exit->St->Prop} {s s':St} (h:s=s'):Tm.T P N c K s=Tm.T P N c K s':=by rw[h]
def Z(P:Program) (N:Nat):C->(Exit->St->Prop)->St->Prop
 |.skip,K,s=>K .normal s
 |.TJ l,K,s=>Zg P l (K .normal) s
 |.draw q l,K,s=>Ov P q l (K .normal) s
 |.any cuts q bs l,K,s=>T P N (.any cuts q bs l) K s
 |.seq a b,K,s=>
  match a.qE with
  |true=>Z P N a (KS P N b K) s
  |false=>Z P N a (KZ (Z P N b K) K) s
 |.cond c a b,K,s=>
  match s.ev c with
  |.v (.bool t)=>gP (t=true) (Z P N a K s) (Z P N b K s)
  |_=>False
 |.block id a,K,s=>
  match a.Vk with
  |true=>T P N (.block id a) K s
  |false=>Z P N a (KB id K) s
 |.loop a,K,s=>T P N (.loop a) K s
 |.exit id,K,s=>K (.exit id) s
 |.ret,K,s=>K .ret s
 |.stuck,_,_=>False
theorem Z.T(hm:P.follows .mixedOrders=true):∀{c:C}{K:Exit->St->Prop}{s:St},Z P N c K s->T P N c K s
 |.skip,K,s,h=>T.skip h
 |.TJ l,K,s,h=>T.TJ (Cs h)
 |.draw q l,K,s,h=>T.draw hm (dF h)
 |.any cuts q bs l,K,s,h=>h
 |.seq a b,K,s,h=>by
  simp only[Z]at h;split at h
  .refine T.seq ((Z.T hm h).mono ?_);intro e s' h';cases e<;>exact h'
  .refine T.seq ((Z.T hm h).mono ?_);intro e s' h'
   cases e with
   |normal=>exact Z.T hm h'
   |_=>exact h'
 |.cond c a b,K,s,h=>by
  simp only[Z]at h;split at h
  .rename_i t ht;exact T.cond ht (λe=>Z.T hm (h.1 e)) (λe=>Z.T hm (h.2 (by simp[e])))
  .exact h.elim
 |.block id a,K,s,h=>by
  simp only[Z]at h;split at h
  .exact h
  .exact T.block ((Z.T hm h).mono λe s' h'=>by cases e<;>exact h')
 |.loop a,K,s,h=>h
 |.exit id,K,s,h=>T.exit h
 |.ret,K,s,h=>T.ret h
 |.stuck,_,_,h=>by simp only[Z]at h
section
variable {l:List RI} {K:St->Prop} {s:St} {dst:Option Tmp} {i:I} {q:Nat} {f:Cal} {args:List Operand} {g:Tmp×Bool}
theorem OR:Zg P [] K s=K s:=Mac rfl rfl
theorem lO:Zg P (.op dst none i::l) K s=lp (fa s i) (KO (Zg P l K) s dst):=Mac rfl rfl
theorem QR:Zg P (.op dst (some g) i::l) K s =
 match gate s (some g)with
 |none=>False
 |some none=>lp (fa s i) (KO (Zg P l K) s dst)
 |some (some (c,b))=>gP (c=b) (lp (fa (Xw s (some g) b) i) (KO (Zg P l K) (Xw s (some g) b) dst)) (Zg P l K ((Xw s (some g) (!b)).put dst (.v undef))):=Mac rfl rfl
theorem BP{k:FuncId}{first caps:List D}(hf:s.ec f=.fn k first caps):Zg P (.call dst none f args::l) K s=af P k (first++args.map s.ev++caps) s.m (KO (Zg P l K) s dst):=by
 simp only[Zg,hf,gate]
theorem DE{k:FuncId}:Zg P (.call dst none (.func k) args::l) K s=af P k (args.map s.ev) s.m (KO (Zg P l K) s dst):=by
 rw[BP (k:=k) (first:=[]) (caps:=[]) rfl,Yad,vad]
theorem wK{k:FuncId}:Zg P (.call dst (some g) (.func k) args::l) K s =
 match gate s (some g)with
 |none=>False
 |some none=>af P k (args.map s.ev) s.m (KO (Zg P l K) s dst)
 |some (some (c,b))=>gP (c=b) (af P k (args.map (Xw s (some g) b).ev) s.m (KO (Zg P l K) (Xw s (some g) b) dst)) (Zg P l K ((Xw s (some g) (!b)).put dst (.v undef))):=by
 simp only[Zg,St.ec,St.ev,Yad,vad]
theorem ER:Ov P 0 l K s=Zg P l K s:=by simp only[Ov]
theorem DR:Ov P (q+1) (.op dst none i::l) K s=lp (fa s i) (KO (Ov P q l K) s dst):=Mac rfl rfl
theorem uW:Ov P (q+1) (.op dst (some g) i::l) K s =
 match gate s (some g)with
 |none=>False
 |some none=>lp (fa s i) (KO (Ov P q l K) s dst)
 |some (some (c,b))=>gP (c=b) (lp (fa s i) (KO (Ov P q l K) s dst)) (Ov P q l K (s.put dst (.v undef))):=Mac rfl rfl
def gI(P:Program) (k:FuncId) (ds:List D) (R:St->Prop) (s:St) (dst:Option Tmp):Prop:=∃d,(∀m,CallT P k ds m λd' m'=>d'=d/\m'=m)/\R (s.put dst d)
theorem WH{k:FuncId}:Ov P (q+1) (.call dst none (.func k) args::l) K s=gI P k (args.map s.ev) (Ov P q l K) s dst:=by
 simp only[Ov,St.cv,St.ev,Yad,vad,gI,gate]
theorem wM{k:FuncId}:Ov P (q+1) (.call dst (some g) (.func k) args::l) K s =
 match gate s (some g)with
 |none=>False
 |some none=>gI P k (args.map s.ev) (Ov P q l K) s dst
 |some (some (c,b))=>gP (c=b) (gI P k (args.map s.ev) (Ov P q l K) s dst) (Ov P q l K (s.put dst (.v undef))):=by
 simp only[Ov,St.cv,St.ev,Yad,vad,gI,gP]
variable {K':Exit->St->Prop} {a b:C} {c:Operand} {id:Nat} {cuts:List Nat} {bs:List (List Nat)}
theorem Am:Z P N .skip K' s=K' .normal s:=Mac rfl rfl
theorem jr:Z P N (.TJ l) K' s=Zg P l (K' .normal) s:=Mac rfl rfl
theorem xm:Z P N (.draw q l) K' s=Ov P q l (K' .normal) s:=Mac rfl rfl
theorem ir:Z P N (.any cuts q bs l) K' s=Tm.T P N (.any cuts q bs l) K' s:=Mac rfl rfl
def KZb(P:Program) (N:Nat) (b:C) (K':Exit->St->Prop):Exit->St->Prop:=KZ (Z P N b K') K'
theorem Mc:KZb P N b K' .normal s=Z P N b K' s:=Mac rfl rfl
theorem Hf:KZb P N b K' (.exit id) s=K' (.exit id) s:=Mac rfl rfl
theorem Ci:KZb P N b K' .ret s=K' .ret s:=Mac rfl rfl
theorem lr:Z P N (.seq a b) K' s=match a.qE with
 |true=>Z P N a (KS P N b K') s
 |false=>Z P N a (KZb P N b K') s:=Mac rfl rfl
theorem wm:Z P N (.cond c a b) K' s=match s.ev c with
 |.v (.bool t)=>gP (t=true) (Z P N a K' s) (Z P N b K' s)
 |_=>False:=Mac rfl rfl
theorem Di:Z P N (.block id a) K' s=match a.Vk with
 |true=>Tm.T P N (.block id a) K' s
 |false=>Z P N a (KB id K') s:=Mac rfl rfl
theorem zm:Z P N (.loop a) K' s=Tm.T P N (.loop a) K' s:=Mac rfl rfl
theorem ym:Z P N (.exit id) K' s=K' (.exit id) s:=Mac rfl rfl
theorem kr:Z P N .ret K' s=K' .ret s:=Mac rfl rfl
end
def At(s' S:St):Prop:=sa s'.t S.t/\∃g,s'.m=S.m++g
theorem At.mk(t t':List D) (m g:List Ent) (h:sa t t'):At ⟨t,m++g⟩ ⟨t',m⟩:=⟨h,g,rfl⟩
theorem At.same(t t':List D) (m:List Ent) (h:sa t t'):At ⟨t,m⟩ ⟨t',m⟩:=⟨h,[],by simp⟩
def Fit(N:Nat) (s:St):Prop:=N<=s.m.length/\belows s.m.length s.t=true/\s.m.all (Ent.below s.m.length)=true
theorem Sub.inv{a b:D}(h:Sub a b):b=.dead\/(∃S,a=.v (.slice none 0 0)/\b=.sl S [])\/(∃l r,a=.agg l/\b=.agg r/\sa l r)\/(∃l r,a=.tup l/\b=.tup r/\sa l r)\/(∃S l r,a=.sl S l/\b=.sl S r/\sa l r)\/a=b:=by
 cases b with
 |dead=>simp
 |v x=>cases a<;>simp_all[Sub]
 |agg r=>cases a<;>simp_all[Sub]
 |tup r=>cases a<;>simp_all[Sub]
 |sl S r=>
  cases a with
  |sl S' l=>simp only[Sub]at h;grind
  |_=>simp_all[Sub]
 |pt x=>cases a<;>simp_all[Sub]
 |ref _ _ _ _=>cases a<;>simp_all[Sub]
 |own _ _=>cases a<;>simp_all[Sub]
 |view _ _ _ _=>cases a<;>simp_all[Sub]
 |fn _ _ _=>cases a<;>simp_all[Sub]
 |mp _=>cases a<;>simp_all[Sub]
 |ifc _ _=>cases a<;>simp_all[Sub]
mutual
theorem Sub.trans:∀{a b c:D},Sub a b->Sub b c->Sub a c
 |a,.dead,c,h1,h2=>by
  rcases h2.inv with rfl|⟨_,h,_⟩|⟨_,_,h,_⟩|⟨_,_,h,_⟩|⟨_,_,_,h,_⟩|rfl
  .exact Sub.ob _
  .cases h
  .cases h
  .cases h
  .cases h
  .exact Sub.ob _
 |a,.agg r,c,h1,h2=>by
  rcases h1.inv with h|⟨_,_,h⟩|⟨l,r',rfl,h,hs⟩|⟨_,_,_,h,_⟩|⟨_,_,_,_,h,_⟩|rfl
  .cases h
  .cases h
  .injection h with h;subst h;rcases h2.inv with rfl|⟨_,h,_⟩|⟨r',q,h,rfl,hs'⟩|⟨_,_,h,_⟩|⟨_,_,_,h,_⟩|rfl
   .exact Sub.ob _
   .cases h
   .injection h with h;subst h;simp only[Sub];exact sa.trans hs hs'
   .cases h
   .cases h
   .exact h1
  .cases h
  .cases h
  .exact h2
 |a,.tup r,c,h1,h2=>by
  rcases h1.inv with h|⟨_,_,h⟩|⟨_,_,_,h,_⟩|⟨l,r',rfl,h,hs⟩|⟨_,_,_,_,h,_⟩|rfl
  .cases h
  .cases h
  .cases h
  .injection h with h;subst h;rcases h2.inv with rfl|⟨_,h,_⟩|⟨_,_,h,_⟩|⟨r',q,h,rfl,hs'⟩|⟨_,_,_,h,_⟩|rfl
   .exact Sub.ob _
   .cases h
   .cases h
   .injection h with h;subst h;simp only[Sub];exact sa.trans hs hs'
   .cases h
   .exact h1
  .cases h
  .exact h2
 |a,.sl S r,c,h1,h2=>by
  rcases h2.inv with rfl|⟨_,h,_⟩|⟨_,_,h,_⟩|⟨_,_,h,_⟩|⟨S',l',q,h,rfl,hs'⟩|rfl
  .exact Sub.ob _
  .cases h
  .cases h
  .cases h
  .injection h with h3 h4;subst h3;subst h4;rcases h1.inv with h|⟨_,rfl,h⟩|⟨_,_,_,h,_⟩|⟨_,_,_,h,_⟩|⟨_,l,_,rfl,h,hs⟩|rfl
   .cases h
   .injection h with h3 h4;subst h4;simp only[sa]at hs';subst hs';simp[Sub]
   .cases h
   .cases h
   .injection h with h3 h4;subst h3;subst h4;simp only[Sub,true_and];exact sa.trans hs hs'
   .exact h2
  .exact h1
 |a,.v x,c,h1,h2=>by
  rcases h1.inv with h|⟨_,_,h⟩|⟨_,_,_,h,_⟩|⟨_,_,_,h,_⟩|⟨_,_,_,_,h,_⟩|rfl<;>first|cases h|exact h2
 |a,.pt x,c,h1,h2=>by
  rcases h1.inv with h|⟨_,_,h⟩|⟨_,_,_,h,_⟩|⟨_,_,_,h,_⟩|⟨_,_,_,_,h,_⟩|rfl<;>first|cases h|exact h2
 |a,.ref _ _ _ _,c,h1,h2=>by
  rcases h1.inv with h|⟨_,_,h⟩|⟨_,_,_,h,_⟩|⟨_,_,_,h,_⟩|⟨_,_,_,_,h,_⟩|rfl<;>first|cases h|exact h2
 |a,.own _ _,c,h1,h2=>by
  rcases h1.inv with h|⟨_,_,h⟩|⟨_,_,_,h,_⟩|⟨_,_,_,h,_⟩|⟨_,_,_,_,h,_⟩|rfl<;>first|cases h|exact h2
 |a,.view _ _ _ _,c,h1,h2=>by
  rcases h1.inv with h|⟨_,_,h⟩|⟨_,_,_,h,_⟩|⟨_,_,_,h,_⟩|⟨_,_,_,_,h,_⟩|rfl<;>first|cases h|exact h2
 |a,.fn _ _ _,c,h1,h2=>by
  rcases h1.inv with h|⟨_,_,h⟩|⟨_,_,_,h,_⟩|⟨_,_,_,h,_⟩|⟨_,_,_,_,h,_⟩|rfl<;>first|cases h|exact h2
 |a,.mp _,c,h1,h2=>by
  rcases h1.inv with h|⟨_,_,h⟩|⟨_,_,_,h,_⟩|⟨_,_,_,h,_⟩|⟨_,_,_,_,h,_⟩|rfl<;>first|cases h|exact h2
 |a,.ifc _ _,c,h1,h2=>by
  rcases h1.inv with h|⟨_,_,h⟩|⟨_,_,_,h,_⟩|⟨_,_,_,h,_⟩|⟨_,_,_,_,h,_⟩|rfl<;>first|cases h|exact h2
theorem sa.trans:∀{a b c:List D},sa a b->sa b c->sa a c
 |[],b,c,h1,h2=>by simp only[sa]at h1;subst h1;exact h2
 |d::a,b,c,h1,h2=>by
  simp only[sa]at h1;obtain⟨e,r,rfl,k1,k2⟩:=h1;simp only[sa]at h2;obtain⟨e',r',rfl,k3,k4⟩:=h2;exact sa.cons (Sub.trans k1 k3) (sa.trans k2 k4)
end
theorem At.trans{a b c:St}(h1:At a b) (h2:At b c):At a c:=by
 obtain⟨h1,g,k1⟩:=h1;obtain⟨h2,g',k2⟩:=h2;exact⟨h1.trans h2,g'++g,by simp_all⟩
def yK(N:Nat) (K:Exit->St->Prop):Prop:=∀s s',At s' s->Fit N s->K .normal s->K .normal s'
theorem HK{s S:St}(hs:At s S) (hb:Fit N S):∀(G:Gh) (w:World) (a:Act),N<=G.n->Rel G w a s->∃G',Rel G' w a S/\StepN N G w s.m G' w S.m:=by
 intro G w a hN' hr0;obtain⟨h1,g,h2⟩:=hs;obtain⟨hN,ht,hm0⟩:=hb;have hst:S.m=s.m.take S.m.length:=by simp_all
 have hk:S.m.length<=s.m.length:=by grind
 have hm:(s.m.take S.m.length).all (Ent.below S.m.length)=true:=by grind
 have hr:Rel G w a ⟨S.t,s.m⟩:=⟨h1.rel hr0.t,hr0.inv,hr0.defers⟩;generalize hkk:S.m.length=k at *;obtain⟨St,Sm⟩:=S;simp only at hst ht hkk hr;subst hst;clear hr0 h2 hkk hm0;have hi:=hr.inv;have hget:∀(i:Nat) e,(s.m.take k)[i]?=some e->i<k/\s.m[i]?=some e:=by
  grind
 have hinv:Inv (G.trim k) w (s.m.take k):=by
  refine⟨by grind[Gh.trim],hi.F,λi e he=>?_,λi j e e' he he' hl hl' b hb hb'=>hi.apart i j e e' (hget i e he).2 (hget j e' he').2 hl hl' b hb hb',hi.gl.bare λ_ h=>h⟩;have hbe:e.below k=true:=Kad.1 hm e (List.mem_of_getElem? he);have hent:=hi.ent i e (hget i e he).2
  cases e with
  |live S Ma l=>
   obtain⟨a1,a2,a3,a4,a5⟩:=hent;refine⟨a1,a2,a3,a4,?_⟩;rcases a5 with a5|⟨b',cs,T,hb',hF,hblk,hsz,hrow⟩
   .exact .inl a5
   .exact .inr ⟨b',cs,T,hb',hF,hblk,hsz,hrow.trim (by grind[Ent.below])⟩
  |mp es=>
   obtain⟨a1,b,en,cl,a2,a3,a4,a5⟩:=hent;exact⟨a1,b,en,cl,a2,a3,a4,a5.trim (by grind[Ent.below])⟩
  |gone=>trivial
 refine⟨G.trim k,⟨hr.t.trim ht,hinv,hr.defers⟩,⟨λ_ h=>h,λ_ _=>rfl,hN,λi hi'=>.inl ⟨rfl,rfl,rfl,rfl,rfl⟩,rfl,rfl,rfl,cad _,λ_ _ _=>rfl,λ_ _ h=>.inl h,?_⟩⟩;rintro b hb ⟨i,e,he,hl,hB⟩;exact⟨i,e,(hget i e he).2,hl,hB⟩
def rK(N:Nat) (K:Exit->St->Prop) (e:Exit) (s:St):Prop:=∀(G:Gh) (w:World) (a:Act),N<=G.n->Rel G w a s->∃s' G',K e s'/\Rel G' w a s'/\StepN N G w s.m G' w s'.m
theorem rK.of{K:Exit->St->Prop}{e:Exit}{s:St}(h:K e s):rK N K e s:=λG w a hN hr=>⟨s,G,h,hr,StepN.refl _ _ _ hN⟩
theorem T.uS{c:C}{K:Exit->St->Prop}{s:St}(h:Tm.T P N c (rK N K) s):Tm.T P N c K s:=by
 intro code hc G w a hN hr;refine Code.wp_mono ?_ (h code hc G w a hN hr);rintro e a' w' ⟨s',G',hK,hr',hs'⟩;obtain⟨s'',G'',k1,k2,k3⟩:=hK G' w' a' hs'.n hr';exact⟨s'',G'',k1,k2,hs'.trans k3⟩
theorem aO{K:Exit->St->Prop}:yK N (rK N K):=by
 intro s s' h1 h2 h3 G w a hN hr;obtain⟨G',k1,k2⟩:=HK h1 h2 G w a hN hr;obtain⟨s'',G'',m1,m2,m3⟩:=h3 G' w a k2.n k1;exact⟨s'',G'',m1,m2,k2.trans m3⟩
theorem T.at{c:C}{K:Exit->St->Prop}{s S:St}(hs:At s S) (hb:Fit N S) (h:Tm.T P N c K S):Tm.T P N c K s:=by
 obtain⟨h1,g,h2⟩:=hs;obtain⟨b1,b2,b3⟩:=hb;refine T.sub S.t h1 ?_;refine T.trim S.m.length b1 (by grind) b2 (by simp_all) ?_
 simp_all
theorem T.Yy{a b:C}{K:Exit->St->Prop}{s:St}(h:Tm.T P N a (KS P N b K) s):Tm.T P N (.seq a b) K s:=T.seq (h.mono λe s' h'=>by cases e<;>exact h')
theorem my{b:C}{K:Exit->St->Prop}:yK N (KS P N b K):=λs s' h1 h2 h3=>T.at h1 h2 h3
theorem ZN{id:Nat}{K:Exit->St->Prop}(h:yK N K):yK N (KB id K):=h
def KM{X:Type}(id:Nat) (K:Exit->St->Prop) (S:X->St) (Dq fin:X->Prop) (μ:X->Nat) (y:X) (e:Exit) (s':St):Prop:=
 match e with|.normal=>∃z,Dq z/\μ z<μ y/\At s' (S z)|.exit j=>if j=id then(∃z,fin z/\At s' (S z))else K (.exit j) s'|e=>K e s'
section
variable {X:Type} {id:Nat} {K:Exit->St->Prop} {S:X->St} {Dq fin:X->Prop} {μ:X->Nat} {y:X} {s':St}
theorem pn:KM id K S Dq fin μ y .normal s' = ∃z,Dq z/\μ z<μ y/\At s' (S z):=Mac rfl rfl
theorem kp{j:Nat}:KM id K S Dq fin μ y (.exit j) s'=if j=id then(∃z,fin z/\At s' (S z))else K (.exit j) s':=Mac rfl rfl
end
def KI(id n:Nat) (K:Exit->St->Prop) (S:Nat->St) (i:Nat) (e:Exit) (s':St):Prop:=
 match e with|.normal=>i<n/\At s' (S (i+1))|.exit j=>if j=id then i=n/\At s' (S n)else K (.exit j) s'|e=>K e s'
section
variable {id n i:Nat} {K:Exit->St->Prop} {S:Nat->St} {s':St}
theorem Xs:KI id n K S i .normal s'=(i<n/\At s' (S (i+1))):=Mac rfl rfl
theorem fE{j:Nat}:KI id n K S i (.exit j) s'=if j=id then i=n/\At s' (S n)else K (.exit j) s':=Mac rfl rfl
end
theorem cO{X:Type}{id:Nat}{K:Exit->St->Prop}{S:X->St}{Dq fin:X->Prop}{μ:X->Nat}{y:X}:yK N (KM id K S Dq fin μ y):=by
 rintro s s' h1 - ⟨z,k1,k2,k3⟩;exact⟨z,k1,k2,h1.trans k3⟩
theorem JV{id n i:Nat}{K:Exit->St->Prop}{S:Nat->St}:yK N (KI id n K S i):=by
 rintro s s' h1 - ⟨k1,k2⟩;exact⟨k1,h1.trans k2⟩
theorem T.JK{id:Nat}{x:C}{K:Exit->St->Prop}{s:St}{X:Type}(S:X->St) (Dq fin:X->Prop) (μ:X->Nat) (x₀:X) (h0:Dq x₀) (hs:At s (S x₀))
 (hb:∀y,Dq y\/fin y->Fit N (S y))
 (round:∀y,Dq y->Tm.T P N x (KM id K S Dq fin μ y) (S y))
 (hst:(∃z,fin z)->yK N K) (rest:∀z,fin z->K .normal (S z)):Tm.T P N (.block id (.loop x)) K s:=by
 refine T.at hs (hb x₀ (.inl h0)) ?_;refine T.block (T.loopS S Dq μ x₀ h0 (sa.qc _) rfl (λy hy=>hb y (.inl hy)) λy hy=>(round y hy).mono ?_);intro e s' h
 cases e with
 |normal=>obtain⟨z,h1,h2,h3,h4⟩:=h;grind
 |exit j=>
  simp only[kp]at h⊢;split at h
  .rename_i hj;rw[if_pos hj];obtain⟨z,hz,h1⟩:=h;exact hst ⟨z,hz⟩ (S z) s' h1 (hb z (.inr hz)) (rest z hz)
  simp_all
 |_=>exact h
theorem T.r4{id:Nat}{x:C}{K:Exit->St->Prop}{s:St}(n:Nat) (S:Nat->St) (hs:At s (S 0)) (hb:∀i,i<=n->Fit N (S i))
 (round:∀i,i<=n->Tm.T P N x (KI id n K S i) (S i))
 (hst:yK N K) (rest:K .normal (S n)):Tm.T P N (.block id (.loop x)) K s:=by
 refine T.JK (X:=Nat) S (λi=>i<=n) (λi=>i=n) (λi=>n-i) 0 (Sad _) hs (λy hy=>hb y (by omega)) (λi hi=>(round i hi).mono ?_) (λ_=>hst) (λz hz=>by simp_all);intro e s' h
 cases e with
 |normal=>
  simp only[Xs]at h;exact⟨i+1,h.1,by grind,h.2⟩
 |exit j=>
  simp only[fE,kp]at h⊢
  grind
 |_=>exact h
theorem bW(d:D):Kn [d]=d:=Mac rfl rfl
theorem aW:Kn []=.tup []:=Mac rfl rfl
theorem cW(d e:D) (l:List D):Kn (d::e::l)=.tup (d::e::l):=Mac rfl rfl
theorem UR{c:Prop} [Decidable c] (p:D×List Ent) (f:D->List Ent->Prop):lp (if c then some p else none) f=(c/\f p.1 p.2):=by
 by_cases h:c<;>simp[h,lp]
theorem XX{α β:Type}{c:Prop} [Decidable c] (a:α) (g:α->β):(if c then some a else none:Option α).map g=if c then some (g a)else none:=by
 simp
theorem ou{n:Int}(h:-9223372036854775808<=n/\n<=9223372036854775807):ca .i64 n=n:=by
 grind[Mv,IntKind.wrap_i64]
theorem Y0(a b:Nat):Int.fdiv (a:Int) (b:Int)=((a / b:Nat):Int):=(Int.fdiv_eq_ediv_of_nonneg _ (by omega)).trans (by omega)
section
variable {k:Nat} {m:List Ent} {id Ma S lo n:Nat} {l:List D}
end
theorem A0{n:Int}(h:0<=n/\n<18446744073709551616):ca .u64 n=n:=by grind[ca]
theorem Sc{k:Nat}(h:k<18446744073709551616):ca .u64 (k:Int)=(k:Int):=A0 (by omega)
theorem jS:((0:Nat):Int)=0:=Mac rfl rfl
theorem Sp(b:Bool):sg (Op.unary .not (.bool b))=some (.bool (!b)):=Mac rfl rfl
theorem CI(a b:Nat):((a:Int)<(b:Int))↔a<b:=by omega
theorem IW{k:Nat}{a b:List D}(ha:belows k a=true) (hb:belows k b=true):belows k (a++b)=true:=by
 induction a with
 |nil=>grind
 |cons d a ih=>
  simp_all[belows]
theorem HT{a b:List D}(ha:ja a=true) (hb:ja b=true):ja (a++b)=true:=by
 grind[Ri]
theorem eY(k:IntKind) (n:Int):sg (Op.unary .neg (.int k n))=some (.int k (ca k (-n))):=by
 show some (Value.int k (k.wrap (0-n)))=_
 grind[Mv]
theorem YX(k:IntKind) (a b:Int):sg (Builtin.max_ #[] 0 [Value.int k a,Value.int k b].toArray)=some (.int k (max a b)):=by
 simp only[Builtin.max_,sg,eah,bind_pure,Builtin.max2];by_cases h:a<b
 .rw[if_pos h,Int.max_eq_right (by omega)];rfl
 .rw[if_neg h,Int.max_eq_left (by omega)];rfl
theorem aY(k:IntKind) (a b:Int):sg (Builtin.min_ #[] 0 [Value.int k a,Value.int k b].toArray)=some (.int k (min a b)):=by
 simp only[Builtin.min_,sg,eah,bind_pure,Builtin.min2];by_cases h:b<a
 .rw[if_pos h,Int.min_eq_right (by omega)];rfl
 .rw[if_neg h,Int.min_eq_left (by omega)];rfl
section
variable {α:Type} {l b c:List α} {a a' x:α}
end
open Go.RowKit (Below)
open Go.WideShapes
inductive Sh where
 |bool
 |int (k:IntKind)
 |str
 |sl (S:Nat) (A:Bool) (e:Sh)
 |cat (l:List Sh)
def aggT(P:Program) (t:TypeId):Bool:=
 match P.underlying t with
 |some (.struct _)=>true
 |some (.array _ _)=>true
 |_=>false
def Sr(f:TypeId->Option Sh) (P:Program):List Field->Nat->Option (List Sh×Nat)
 |[],off=>some ([],off)
 |g::gs,off=>
  if g.offset=off then
   match f g.type,Sr f P gs (off+P.cellsOf g.type)with
   |some s,some (l,e)=>some (s::l,e)
   |_,_=>none
  else none
def shOf(P:Program):Nat->TypeId->Option Sh
 |0,_=>none
 |n+1,t=>
  match P.underlying t with
  |some .bool=>some .bool
  |some (.int k)=>some (.int k)
  |some .string=>some .str
  |some (.slice e)=>if 0<P.cellsOf e/\0<P.bytesOf e then(shOf P n e).map λs=>.sl (P.cellsOf e) (aggT P e) s else none
  |some (.struct fs)=>
   match Sr (shOf P n) P fs.toList 0 with
   |some (l,e)=>if e=P.cellsOf t then some (.cat l)else none
   |none=>none
  |some (.array k e)=>if P.cellsOf t=k*P.cellsOf e then(shOf P n e).map λs=>.cat (Nac k s)else none
  |_=>none
def uq(A:Bool) (cs:List D):D:=bif A then .agg cs else cs.headD .dead
mutual
def om:Sh->List D->Prop
 |.bool,ds=>∃b,ds=[.v (.bool b)]
 |.int k,ds=>∃n,ds=[.v (.int k n)]/\(Lit.int k n).wf=true
 |.str,ds=>∃s:ByteArray,ds=[.v (.string s)]/\s.size<=maxLen
 |.sl S A e,ds=>∃l,ds=[.sl S l]/\l.length<=140737488355328/\∀d∈l,∃cs,om e cs/\d=uq A cs
 |.cat l,ds=>vu l ds
def vu:List Sh->List D->Prop
 |[],ds=>ds=[]
 |s::l,ds=>∃a b,ds=a++b/\om s a/\vu l b
end
theorem OC{G:Gh}{w:World}:∀{a b:List D}{us vs:List Value},VsRel G w a us->VsRel G w b vs->VsRel G w (a++b) (us++vs)
 |[],b,us,vs,h1,h2=>by simp only[VsRel]at h1;simp_all
 |d::a,b,us,vs,h1,h2=>by
  simp only[VsRel]at h1;obtain⟨u,r,rfl,k1,k2⟩:=h1;simp only[mad,VsRel];exact⟨u,_,rfl,k1,OC k2 h2⟩
theorem DD{f:TypeId->Option Sh}{P:Program}:∀{fs:List Field}{off:Nat}{l:List Sh}{e:Nat},Sr f P fs off=some (l,e)->off<=e
 |[],off,l,e,h=>by grind[Sr]
 |g::gs,off,l,e,h=>by
  simp only[Sr]at h;split at h
  .split at h
   .rename_i s l' e' h1 h2;simp at h;have:=DD h2;omega
   .cases h
  .cases h
def R0(w:World):Gh:=Gh.bare λb=>b<w.heap.size
theorem OK{w:World}{a:Addr}{v:Value}(h:w.cell? a=some v):a.block<w.heap.size:=by
 grind[World.cell?]
section
variable {H:Type} {enc:TypeId×Value->H} {P:Program} {w:World} {base:Nat} {spare:Nat->Bool} {held:Bool}
theorem Gs{P:Program}{e:TypeId}:∀{l:List (DataW H)}{d:DataW H},d∈l->∀n∈d.weights P e,n∈DataW.weightsAll P e l
 |[],_,h=>by cases h
 |x::l,d,h=>by
  intro n hn;simp only[DataW.weightsAll,wad];rcases Wad.1 h with rfl|h
  .simp_all
  .exact .inr (Gs h n hn)
theorem fD{n fuel:Nat}{cs:List Value}(ih:∀t cs x s,shOf P n t=some s->DataW.trod enc P w base spare held fuel t cs=some x->(∀n∈x.1.weights P t,n<=reachBytes)->∃ds,om s ds/\VsRel (R0 w) w ds cs/\∀c∈cs,one c=true) :
 ∀(fs:List Field) (off:Nat) (l:List Sh) (e:Nat),Sr (shOf P n) P fs off=some (l,e)->
  (∀f∈fs,∃x,DataW.trod enc P w base spare held fuel f.type ((cs.drop f.offset).take (P.cellsOf f.type))=some x/\∀n∈x.1.weights P f.type,n<=reachBytes)->
  ∃ds,vu l ds/\VsRel (R0 w) w ds ((cs.drop off).take (e-off))/\∀c∈(cs.drop off).take (e-off),one c=true
 |[],off,l,e,h,_=>by
  simp[Sr]at h;obtain⟨rfl,rfl⟩:=h;refine⟨[],by simp[vu],by simp[VsRel],by simp⟩
 |g::gs,off,l,e,h,hx=>by
  simp only[Sr]at h;split at h
  .rename_i hoff;split at h
   .rename_i s l' e' h1 h2;simp only[Aad,lad]at h;obtain⟨rfl,rfl⟩:=h;obtain⟨x,hx0,hw0⟩:=hx g (by simp);obtain⟨a,k1,k2,k3⟩:=ih _ _ _ _ h1 hx0 hw0;obtain⟨b,m1,m2,m3⟩:=fD ih gs _ _ _ h2 λf hf=>hx f (by grind);have hle:=DD h2;have heq:(cs.drop off).take (e'-off)=(cs.drop g.offset).take (P.cellsOf g.type)++(cs.drop (off+P.cellsOf g.type)).take (e'-(off+P.cellsOf g.type)):=by
     rw[show e'-off=P.cellsOf g.type+(e'-(off+P.cellsOf g.type)) by omega,List.take_add,Taf,hoff]
    rw[heq];refine⟨a++b,by simp only[vu];grind,OC k2 m2,λc hc=>?_⟩
    grind
   .cases h
  .cases h
theorem YL{n fuel S:Nat}{cs:List Value}{e:TypeId}{s:Sh}(ih:∀cs x,DataW.trod enc P w base spare held fuel e cs=some x->(∀n∈x.1.weights P e,n<=reachBytes)->∃ds,om s ds/\VsRel (R0 w) w ds cs/\∀c∈cs,one c=true) :
 ∀(k i:Nat),(∀j,i<=j->j<i+k->∃x,DataW.trod enc P w base spare held fuel e ((cs.drop (j*S)).take S)=some x/\∀n∈x.1.weights P e,n<=reachBytes)->
  ∃ds,vu (Nac k s) ds/\VsRel (R0 w) w ds ((cs.drop (i*S)).take (k*S))/\∀c∈(cs.drop (i*S)).take (k*S),one c=true
 |0,i,_=>⟨[],by simp[vu],by simp[VsRel],by simp⟩
 |k+1,i,hx=>by
  obtain⟨x,hx0,hw0⟩:=hx i (cad _) (by omega);obtain⟨a,k1,k2,k3⟩:=ih _ _ hx0 hw0;obtain⟨b,m1,m2,m3⟩:=YL (n:=n) ih k (i+1) λj h1 h2=>hx j (by omega) (by omega);have heq:(cs.drop (i*S)).take ((k+1)*S)=(cs.drop (i*S)).take S++(cs.drop ((i+1)*S)).take (k*S):=by
   grind[Nat.succ_mul,Taf]
  rw[heq];refine⟨a++b,by simp only[kae,vu];grind,OC k2 m2,λc hc=>?_⟩
  grind
theorem sM{A:Bool}{ds:List D}{cs:List Value}(h:VsRel (R0 w) w ds cs) (h1:∀c∈cs,one c=true) (hA:A=false->cs.length=1) :
 ∃u:Value,VRel (R0 w) w (uq A ds) u/\u.cells=cs.toArray/\(A=true->u=.agg cs.toArray)/\(A=false->∃c,cs=[c]/\u=c):=by
 cases A with
 |true=>exact⟨.agg cs.toArray,by simp only[uq,cond_true,VRel];simp_all,rfl,λ_=>rfl,λh=>by cases h⟩
 |false=>
  match cs,hA rfl with
  |[c],_=>
   match ds,h with
   |d::r,h=>
    simp only[VsRel]at h;obtain⟨u,us,hu,hv,hr⟩:=h;injection hu with hu1 hu2;subst hu1;have h1c:=h1 c (by simp);have hcells:c.cells=[c].toArray:=by cases c<;>simp[one]at h1c<;>rfl
    exact⟨c,by grind[uq],hcells,λh=>Bool.noConfusion h,λ_=>⟨c,rfl,rfl⟩⟩
theorem zV{n:Nat}{t:TypeId}{s:Sh}(h:shOf P n t=some s) {fuel:Nat}{cs:List Value}{x:DataW H×List MemPlace}(hx:DataW.trod enc P w base spare held fuel t cs=some x):aggT P t=false->cs.length=1:=by
 intro hA
 cases n with
 |zero=>grind[shOf]
 |succ n=>
  simp only[shOf]at h;simp only[aggT]at hA;split at h
  .rename_i hu;obtain⟨b,rfl,_⟩:=DataW.trod_bool hu hx;rfl
  .rename_i hu;obtain⟨b,rfl,_⟩:=DataW.trod_int hu hx;rfl
  .rename_i hu;obtain⟨b,rfl,_⟩:=DataW.trod_string hu hx;rfl
  .rename_i hu;rcases DataW.trod_slice hu hx with⟨rfl,_⟩|⟨a,len,cap,elems,rest,m,_,rfl,_⟩<;>rfl
  all_goals simp_all
theorem Hy:∀(n:Nat) (fuel:Nat) (t:TypeId) (cs:List Value) (x:DataW H×List MemPlace) (s:Sh),shOf P n t=some s->DataW.trod enc P w base spare held fuel t cs=some x->(∀n∈x.1.weights P t,n<=reachBytes)->
 ∃ds,om s ds/\VsRel (R0 w) w ds cs/\∀c∈cs,one c=true
 |0,fuel,t,cs,x,s,h,_,_=>by grind[shOf]
 |n+1,fuel,t,cs,x,s,h,hx,hwt=>by
  simp only[shOf]at h;split at h
  .rename_i hu;injection h with h;subst h;obtain⟨b,rfl,_⟩:=DataW.trod_bool hu hx;exact⟨[.v (.bool b)],by simp only[om];simp,by simp[VsRel,VRel],by simp[one]⟩
  .rename_i k hu;injection h with h;subst h;obtain⟨b,rfl,_,hw⟩:=DataW.trod_int hu hx;exact⟨[.v (.int k b)],by simp only[om];simp_all,by simp[VsRel,VRel],by simp[one]⟩
  .rename_i hu;injection h with h;subst h;obtain⟨b,rfl,_,hw⟩:=DataW.trod_string hu hx;exact⟨[.v (.string b)],by simp only[om];simp_all,by simp[VsRel,VRel],by simp[one]⟩
  .rename_i e hu;split at h
   .rename_i hpos;simp only[Oac]at h;obtain⟨se,hse,rfl⟩:=h;rcases DataW.trod_slice hu hx with⟨rfl,_⟩|⟨a,len,cap,elems,rest,m,_,rfl,rfl,hb,hl,hm,hlen,hel,_,_⟩
    .refine⟨[.sl (P.cellsOf e) []],by simp only[om];simp,?_,by simp[one]⟩;simp only[VsRel,VRel]
     grind
    .simp only[DataW.weights,hu,Wad,wad]at hwt;have hlb:=hwt _ (.inl rfl);have hle:len<=140737488355328:=by
      simp only[bae]at hlb;have h1:=Nat.le_mul_of_pos_right (elems.length+rest.length) hpos.2
      grind[reachBytes]
     have each:∀i,i<len->∃d u,(∃cs,om se cs/\d=uq (aggT P e) cs)/\VRel (R0 w) w d u/\u.cells.size=P.cellsOf e/\(∀j c,u.cells[j]?=some c->one c=true/\w.cell? ((a.add (i*P.cellsOf e)).add j)=some c):=by
      intro i hi;have h1:=hel i hi;rw[Lac (by omega)]at h1;obtain⟨ecs,k1,k2⟩:=vae.1 h1;obtain⟨ds,m1,m2,m3⟩:=Hy n _ _ _ _ _ hse k2 (λq hq=>hwt q (.inr (.inl (Gs (rag (Qac _)) q hq))));obtain⟨_,q1,q2⟩:=World.cells?_some k1;obtain⟨u,r1,r2,_,_⟩:=sM (A:=aggT P e) m2 m3 (zV hse k2)
      grind
     have hrow:∀k,k<=len->∃l:List D,l.length=k/\(∀d∈l,∃cs,om se cs/\d=uq (aggT P e) cs)/\∀(i:Nat) d,l[i]?=some d->∃u,VRel (R0 w) w d u/\u.cells.size=P.cellsOf e/\(∀j c,u.cells[j]?=some c->one c=true/\w.cell? ((a.add (i*P.cellsOf e)).add j)=some c):=by
      intro k
      induction k with
      |zero=>simp
      |succ k ih=>
       intro hk;obtain⟨l,l1,l2,l3⟩:=ih (by omega);obtain⟨d,u,d1,d2,d3,d4⟩:=each k (by omega);refine⟨l++[d],by grind,λd' hd'=>?_,λi d' hd'=>?_⟩
       all_goals grind
     obtain⟨l,l1,l2,l3⟩:=hrow len (cad _);refine⟨[.sl (P.cellsOf e) l],by simp only[om];simp_all,?_,by simp[one]⟩;simp only[VsRel,VRel];refine⟨_,_,rfl,⟨some a,len,cap,rfl,l1.symm,hl,?_⟩,rfl⟩
     cases l with
     |nil=>simp
     |cons d0 l'=>
      obtain⟨u0,_,us,uc⟩:=l3 0 d0 rfl;have h0:∃c,u0.cells[0]?=some c:=⟨u0.cells[0]'(by omega),Array.getElem?_eq_getElem (by omega)⟩;obtain⟨c,hc⟩:=h0;have hc2:=(uc 0 c hc).2;have hadd:(a.add (0*P.cellsOf e)).add 0=a:=by simp[Addr.add]
      rw[hadd]at hc2;obtain⟨b,off,spot⟩:=a;have hspot:spot=none:=by simpa using World.cell?_spot hc2
      subst hspot;refine .inr ⟨b,off,rfl,OK hc2,?_⟩;rw[xe];intro i d hd;obtain⟨u,u1,u2,u3⟩:=l3 i d hd;refine⟨u,u1,u2,λj c hj=>?_⟩;obtain⟨c1,c2⟩:=u3 j c hj;refine⟨c1,?_⟩;have haddr:(Addr.add (Addr.add ⟨b,off,none⟩ (i*P.cellsOf e)) j)=⟨b,off+i*P.cellsOf e+j,none⟩:=by
       unfold Addr.add
       grind
      simp_all
   .cases h
  .rename_i fs hu;split at h
   .rename_i l e hsf;split at h
    .rename_i he;injection h with h;subst h;obtain⟨xs,m,rfl,rfl,hlen,hxl,hget⟩:=DataW.trod_struct hu hx;simp only[DataW.weights,hu]at hwt;obtain⟨ds,k1,k2,k3⟩:=fD (n:=n) (fuel:=m) (cs:=cs) (λt cs x s h1 h2 h3=>Hy n _ _ _ _ _ h1 h2 h3) fs.toList 0 l e hsf (λf hf=>by
      obtain⟨i,hi,hfi⟩:=List.mem_iff_getElem.1 hf;have hi':i<fs.size:=by omega
      have:=hget i f (by simp_all);rw[Lac (by omega)]at this;exact⟨_,this,λq hq=>hwt q (DataW.weights_mem_each (j:=i) (t:=f.type) (d:=(xs[i]'(by omega)).1) (by simp_all) (by simp_all) q hq)⟩)
     rw[oaf,gaf,he,←hlen,dae]at k2 k3;exact⟨ds,by simp only[om];omega,k2,k3⟩
    .cases h
   .cases h
  .rename_i k e hu;split at h
   .rename_i he;simp only[Oac]at h;obtain⟨se,hse,rfl⟩:=h;obtain⟨xs,m,rfl,rfl,hlen,hxl,hget⟩:=DataW.trod_array hu hx;simp only[DataW.weights,hu]at hwt;obtain⟨ds,k1,k2,k3⟩:=YL (n:=n) (fuel:=m) (S:=P.cellsOf e) (cs:=cs) (e:=e) (s:=se) (λcs x h2 h3=>Hy n _ _ _ _ _ hse h2 h3) k 0 (λj _ hj=>by
     grind[Gs,rag,Qac])
    rw[Nat.zero_mul,oaf,←he,←hlen,dae]at k2 k3;exact⟨ds,by simp only[om];omega,k2,k3⟩
   .cases h
  .cases h
def LookV(A:Bool) (s:Sh) (d:D):Prop:=∃ds,om s ds/\d=uq A ds
theorem arg_tree{n:Nat}{t:TypeId}{s:Sh}{v:Value}{d:DataW H}{p:List MemPlace}{r:Reach}{b0:Nat}(h:shOf P n t=some s) (hx:DataW.Trod enc P w base spare held t v d p) (hv:Value.okWide P w r b0 t v) (hwt:∀n∈d.weights P t,n<=reachBytes) :
 ∃d',LookV (aggT P t) s d'/\VRel (R0 w) w d' v:=by
 obtain⟨fuel,hx⟩:=hx;obtain⟨ds,k1,k2,k3⟩:=Hy n _ _ _ _ _ h hx hwt;obtain⟨u,u1,u2,u3,u4⟩:=sM (A:=aggT P t) k2 k3 (zV h hx);refine⟨uq (aggT P t) ds,⟨ds,k1,rfl⟩,?_⟩;have:u=v:=by
  cases hA:aggT P t with
  |true=>
   rw[u3 hA];unfold aggT at hA;split at hA
   .rename_i hu;simp only[Value.okWide,hu]at hv;obtain⟨cs,rfl,_⟩:=hv;simp[Value.cells]
   .rename_i hu;simp only[Value.okWide,hu]at hv;obtain⟨cs,rfl,_⟩:=hv;simp[Value.cells]
   simp_all
  |false=>
   obtain⟨c,hc,rfl⟩:=u4 hA
   cases n with
   |zero=>grind[shOf]
   |succ n=>
    simp only[shOf]at h;unfold aggT at hA;split at h
    .rename_i hu;obtain⟨b,rfl⟩:=okWide_bool hu hv;grind[Value.cells]
    .rename_i hu;obtain⟨b,rfl⟩:=okWide_int hu hv;grind[Value.cells]
    .rename_i hu;obtain⟨b,rfl⟩:=okWide_string hu hv;grind[Value.cells]
    .rename_i hu;obtain⟨a,l,c',rfl⟩:=okWide_slice hu hv;grind[Value.cells]
    all_goals simp_all
 simp_all
end
theorem iM{G G':Gh}{w w':World}{m':List Ent}(h:Step G w [] G' w' m'):Below w.heap.size w w':=
 ⟨h.os,h.tape,h.output,h.size,λk hk=>h.keep k hk λ⟨i,e,he,_⟩=>by simp at he⟩
theorem gok_tab{P:Program}{W:World}{name:String}(hg:P.globalNamed name=some 2) (hT:Go.Lib.TabIs P W name .i64 [31,28,31,30,31,30,31,31,30,31,30,31]):GOK (R0 W) W:=by
 intro g d h;unfold gtab at h;split at h
 .injection h with h;subst h;have hc:=hT.cell hg;refine(by
   simp only[VRel];refine⟨2,0,.agg (([31,28,31,30,31,30,31,31,30,31,30,31]:List Int).map λn=>Value.int .i64 n).toArray,rfl,?_,⟨_,rfl,?_,?_⟩,?_⟩
   .exact OK (a:=⟨2,0,none⟩) (hc 0 (by decide))
   .simp only[Bad,Vae,VsRel,VRel];simp
   .intro c hc;simp only[Bad,Vae,Wad,List.not_mem_nil,or_false]at hc;rcases hc with rfl|rfl|rfl|rfl|rfl|rfl|rfl|rfl|rfl|rfl|rfl|rfl<;>rfl
   .intro j c hj;have hj':(([31,28,31,30,31,30,31,31,30,31,30,31]:List Int).map λn=>Value.int .i64 n)[j]?=some c:=by grind[Value.cells]
    obtain⟨hlt,hcj⟩:=oad.1 hj';have hlt':j<([31,28,31,30,31,30,31,31,30,31,30,31]:List Int).length:=by grind
    rw[List.getElem_map]at hcj;subst hcj;refine⟨rfl,?_⟩
    simp_all:VRel (R0 W) W (.pt (.agg ([31,28,31,30,31,30,31,31,30,31,30,31].map λn=>.v (.int .i64 n)))) (.pointer (some ⟨2,0,none⟩)))
 .cases h
theorem law_walk{P:Program}{f:FuncId}{ds:List D}{vs:List Value}{w:World}(h:CallT P f ds [] λd _=>d=.v (.bool true)) (hv:VsRel (R0 w) w ds vs) (hg:GOK (R0 w) w) :
 Calls P f vs.toArray w λe w'=>e=.returned (.bool true)/\Below w.heap.size w w':=by
 refine(h.2 (R0 w) w vs hv (JA (λ_ h=>h) hg)).mono ?_;rintro e w' ⟨v,d,m',G',rfl,rfl,hvd,-,hs⟩;simp only[VRel]at hvd;subst hvd;exact⟨rfl,iM hs⟩
variable {P:Program}
theorem Q3(op:BinOp) (j k:IntKind) (a b:Int):sg (binOp op 0 (.int j a) (.int k b))=oh op j a k b:=(JW ..).symm
theorem w0(k:IntKind) (n:Int):k.wrap n=ca k n:=(Mv k n).symm
variable {P:Program}
abbrev jq:=List (Option Nat×Nat×Nat)
def Oz(ρ:jq) (j:Nat):Bool:=ρ.all λo=>match o.1 with|some k=>k !=j|none=>true
inductive Sbs (ρ:jq) (m:List Ent):List D->List D->Prop
 |nil:Sbs ρ m [] []
 |same {d l r} (hf:la d=true) (h:Sbs ρ m l r):Sbs ρ m (d::l) (d::r)
 |dead {d l r} (h:Sbs ρ m l r):Sbs ρ m (d::l) (.dead::r)
 |nils {S l r} (h:Sbs ρ m l r):Sbs ρ m (.v (.slice none 0 0)::l) (.sl S []::r)
 |RC {S u l r} (i:Nat) (hi:ρ[i]?=some (none,S,u)) (h:Sbs ρ m l r):Sbs ρ m (.v (.slice none 0 0)::l) (.own i u::r)
 |agg {a b l r} (ha:Sbs ρ m a b) (h:Sbs ρ m l r):Sbs ρ m (.agg a::l) (.agg b::r)
 |tup {a b l r} (ha:Sbs ρ m a b) (h:Sbs ρ m l r):Sbs ρ m (.tup a::l) (.tup b::r)
 |sl {S a b l r} (ha:Sbs ρ m a b) (h:Sbs ρ m l r):Sbs ρ m (.sl S a::l) (.sl S b::r)
 |own {j v u i l r} (hi:ρ[i]?=some (some j,v,u)) (h:Sbs ρ m l r):Sbs ρ m (.own j v::l) (.own i u::r)
 |ref {j v u i x s l r} (hi:ρ[i]?=some (some j,v,u)) (h:Sbs ρ m l r):Sbs ρ m (.ref j v x s::l) (.ref i u x s::r)
 |view {j v u i lo n l r} (hi:ρ[i]?=some (some j,v,u)) (h:Sbs ρ m l r):Sbs ρ m (.view j v lo n::l) (.view i u lo n::r)
 |mp {j i l r} (hi:ρ[i]?=some (some j,0,0)) (h:Sbs ρ m l r):Sbs ρ m (.mp j::l) (.mp i::r)
 |Ye {S j v a b l r} (hm:m[j]?=some (.live S v a)) (ho:Oz ρ j=true) (ha:Sbs ρ m a b) (h:Sbs ρ m l r):Sbs ρ m (.own j v::l) (.sl S b::r)
 |fview {S j v lo n a b l r} (hm:m[j]?=some (.live S v a)) (ho:Oz ρ j=true) (hn:lo+n<=a.length) (ha:Sbs ρ m ((a.drop lo).take n) b) (h:Sbs ρ m l r):Sbs ρ m (.view j v lo n::l) (.sl S b::r)
 |fref {S j v x a d e l r} (hm:m[j]?=some (.live S v a)) (ho:Oz ρ j=true) (hx:a[x]?=some d) (ha:Sbs ρ m [d] [e]) (h:Sbs ρ m l r):Sbs ρ m (.ref j v x 0::l) (.pt e::r)
 |pt {d e l r} (ha:Sbs ρ m [d] [e]) (h:Sbs ρ m l r):Sbs ρ m (.pt d::l) (.pt e::r)
 |fn {f a b c d l r} (ha:Sbs ρ m a b) (hc:Sbs ρ m c d) (h:Sbs ρ m l r):Sbs ρ m (.fn f a c::l) (.fn f b d::r)
 |ifc {t d e l r} (ha:Sbs ρ m [d] [e]) (h:Sbs ρ m l r):Sbs ρ m (.ifc t d::l) (.ifc t e::r)
def nX(es:List (Value×D)):Bool:=es.all λp=>la p.2
inductive Ets (ρ:jq) (m:List Ent):jq->List Ent->Prop
 |nil:Ets ρ m [] []
 |live {j v u S l l' os es} (hm:m[j]?=some (.live S v l)) (hl:Sbs ρ m l l') (h:Ets ρ m os es):Ets ρ m ((some j,v,u)::os) (.live S u l'::es)
 |new {S u os es} (h:Ets ρ m os es):Ets ρ m ((none,S,u)::os) (.live S u []::es)
 |mp {j es os ees} (hm:m[j]?=some (.mp es)) (hf:nX es=true) (h:Ets ρ m os ees):Ets ρ m ((some j,0,0)::os) (.mp es::ees)
structure Tell (ρ:jq) (s S:St):Prop where
 t:Sbs ρ s.m s.t S.t
 m:Ets ρ s.m ρ S.m
 one:(ρ.filterMap (·.1)).Nodup
def Xb(G:Gh) (m:List Ent) (ρ:jq):Gh where
 F b:=G.F b\/(Ze G m b/\∀(i j:Nat) v,ρ[i]?=some (some j,v)->G.B j≠some b)
 n:=ρ.length
 B i:=match ρ[i]? with|some (some j,_)=>G.B j|_=>none
 V i:=match ρ[i]? with|some (_,_,u)=>u|_=>0
 S i:=match ρ[i]? with|some (some j,_)=>G.S j|some (none,S,_)=>S|_=>0
 N i:=match ρ[i]? with|some (some j,_)=>G.N j|_=>0
 C i:=match ρ[i]? with|some (some j,_)=>G.C j|_=>(0,0)
theorem wY{ρ:jq}{j:Nat}(h:Oz ρ j=true):∀(i k:Nat) v,ρ[i]?=some (some k,v)->k≠j:=by
 grind[Oz]
theorem LC{G:Gh}{w:World}{m:List Ent}{ρ:jq}(hi:Inv G w m) (hgo:∀(i j:Nat) v,ρ[i]?=some (some j,v)->∃e:Ent,m[j]?=some e/\e.isLive=true) {j:Nat}{e:Ent}(hm:m[j]?=some e) (hl:e.isLive=true) (ho:Oz ρ j=true) {b:Nat}(hb:G.B j=some b):(Xb G m ρ).F b:=by
 refine .inr ⟨⟨j,e,hm,hl,hb⟩,λi k v hik hB=>?_⟩;obtain⟨e',he',hl'⟩:=hgo i k v hik;exact wY ho i k v hik (hi.apart k j e' e he' hm hl' hl b hB hb)
theorem Sbs.length{ρ:jq}{m:List Ent}{l r:List D}(h:Sbs ρ m l r):l.length=r.length:=by
 induction h<;>simp_all
theorem HC{ρ:jq}{i:Nat}{o:Option Nat×Nat×Nat}(h:ρ[i]?=some o):i<ρ.length:=by
 grind
theorem Sbs.rel{G:Gh}{w:World}{m:List Ent}{ρ:jq}(hi:Inv G w m) (hgo:∀(i j:Nat) v,ρ[i]?=some (some j,v)->∃e:Ent,m[j]?=some e/\e.isLive=true/\(∀S v' l,e=.live S v' l->v'=v.1)) {l r:List D}(h:Sbs ρ m l r) :
 (∀us,VsRel G w l us->VsRel (Xb G m ρ) w r us)/\(∀b S off,Ua G w b S l off->Ua (Xb G m ρ) w b S r off):=by
 have hgo':∀(i j:Nat) v,ρ[i]?=some (some j,v)->∃e:Ent,m[j]?=some e/\e.isLive=true:=λi j v h=>by grind
 have both:∀{d e:D} {l r:List D},(∀u,VRel G w d u->VRel (Xb G m ρ) w e u)->
  ((∀us,VsRel G w l us->VsRel (Xb G m ρ) w r us)/\(∀b S off,Ua G w b S l off->Ua (Xb G m ρ) w b S r off))->
  ((∀us,VsRel G w (d::l) us->VsRel (Xb G m ρ) w (e::r) us)/\(∀b S off,Ua G w b S (d::l) off->Ua (Xb G m ρ) w b S (e::r) off)):=by
  intro d e l r h1 h2;refine⟨λus hv=>?_,λb S off hv=>?_⟩
  .simp only[VsRel]at hv⊢
   grind
  .simp only[Ua]at hv⊢
   grind
 have first:∀{d e:D},(∀us,VsRel G w [d] us->VsRel (Xb G m ρ) w [e] us)->∀u,VRel G w d u->VRel (Xb G m ρ) w e u:=by
  intro d e h u hu;have:=h [u] (by simp only[VsRel];simp_all);simp only[VsRel]at this
  simp_all
 induction h with
 |nil=>exact⟨λus h=>by simpa [VsRel] using h,λ_ _ _ _=>by simp[Ua]⟩
 |same hf h ih=>exact both (λu hu=>VRel.free (G':=Xb G m ρ) ⟨λ_ h=>Or.inl h,λ_ _=>rfl⟩ hf hu) ih
 |dead h ih=>exact both (λu _=>by simp[VRel]) ih
 |nils h ih=>exact both (λu hu=>by simp only[VRel]at hu⊢;grind) ih
 |RC i hi' h ih=>
  refine both (λu hu=>?_) ih;simp only[VRel]at hu⊢;exact⟨none,0,0,hu,HC hi',by grind[Xb],λ_=>by grind[Xb]⟩
 |agg ha h iha ih=>
  refine both (λu hu=>?_) ih;simp only[VRel]at hu⊢
  grind
 |tup ha h iha ih=>
  refine both (λu hu=>?_) ih;simp only[VRel]at hu⊢
  grind
 |sl ha h iha ih=>
  refine both (λu hu=>?_) ih;simp only[VRel]at hu⊢;obtain⟨a,n,cap,rfl,hn,hc,g⟩:=hu;refine⟨a,n,cap,rfl,by rw[←ha.length];omega,hc,?_⟩;rcases g with rfl|⟨b,off,rfl,hF,hr⟩
  .exact .inl (gad ha.length.symm)
  .exact .inr ⟨b,off,rfl,.inl hF,iha.2 b _ off hr⟩
 |own hi' h ih=>
  refine both (λu hu=>?_) ih;obtain⟨e,he,hl,hv⟩:=hgo _ _ _ hi';simp only[VRel]at hu⊢;obtain⟨a,n,c,rfl,g1,g2,g3⟩:=hu;refine⟨a,n,c,rfl,HC hi',by grind[Xb],λ_=>?_⟩;have hent:=hi.ent _ _ he
  cases e with
  |live S v' l'=>
   obtain⟨a1,_⟩:=hent;have:=g3 (by grind)
   grind[Xb]
  |mp es=>
   obtain⟨a1,_⟩:=hent
   grind[Xb]
  |gone=>grind[Ent.isLive]
 |ref hi' h ih=>
  refine both (λu hu=>?_) ih;obtain⟨e,he,hl,hv⟩:=hgo _ _ _ hi';simp only[VRel]at hu⊢;obtain⟨a,rfl,g1,g2,g3⟩:=hu;refine⟨a,rfl,HC hi',by grind[Xb],λ_=>?_⟩;have hent:=hi.ent _ _ he
  cases e with
  |live S v' l'=>
   obtain⟨a1,_⟩:=hent;have:=g3 (by grind);simpa [Xb,hi'] using this
  |mp es=>
   obtain⟨a1,_⟩:=hent;have:=g3 (by omega);simpa [Xb,hi'] using this
  |gone=>grind[Ent.isLive]
 |view hi' h ih=>
  refine both (λu hu=>?_) ih;obtain⟨e,he,hl,hv⟩:=hgo _ _ _ hi';simp only[VRel]at hu⊢;obtain⟨a,c,rfl,g0,g1,g2,g3⟩:=hu;refine⟨a,c,rfl,g0,HC hi',by grind[Xb],λ_=>?_⟩;have hent:=hi.ent _ _ he
  cases e with
  |live S v' l'=>
   obtain⟨a1,_⟩:=hent;have:=g3 (by grind);simpa [Xb,hi'] using this
  |mp es=>
   obtain⟨a1,_⟩:=hent;have:=g3 (by omega);simpa [Xb,hi'] using this
  |gone=>grind[Ent.isLive]
 |mp hi' h ih=>
  refine both (λu hu=>?_) ih;simp only[VRel]at hu⊢;obtain⟨b,rfl,g1,g2⟩:=hu;obtain⟨e,he,hl,hv⟩:=hgo _ _ _ hi';have hent:=hi.ent _ _ he;refine⟨b,rfl,HC hi',λ_=>?_⟩
  cases e with
  |live S v' l'=>
   obtain⟨a1,_⟩:=hent;have:=g2 (by grind)
   grind[Xb]
  |mp es=>
   obtain⟨a1,_⟩:=hent
   grind[Xb]
  |gone=>grind[Ent.isLive]
 |Ye hm ho ha h iha ih=>
  refine both (λu hu=>?_) ih;obtain⟨a1,a2,a3,a4,a5⟩:=hi.ent _ _ hm;simp only[VRel]at hu⊢;obtain⟨a,n,c,rfl,g1,g2,g3⟩:=hu;obtain⟨rfl,rfl,rfl⟩:=g3 a1;refine⟨_,_,_,rfl,by rw[a3,ha.length],by omega,?_⟩;rcases a5 with a5|⟨b',cs,T,hb',hF,hblk,hsz,hrow⟩
  .have h00:=congrArg yag a5.2;dsimp only at h00;exact .inl (gad (by have:=ha.length;omega))
  .exact .inr ⟨b',(G.C _).2,by simp_all,LC hi hgo' hm rfl ho hb',iha.2 b' _ _ hrow⟩
 |@fview S j v lo n a b l r hm ho hn ha h iha ih=>
  refine both (λu hu=>?_) ih;obtain⟨a1,a2,a3,a4,a5⟩:=hi.ent _ _ hm;simp only[VRel]at hu⊢;obtain⟨p,c,rfl,hnc,hid,hver,hx⟩:=hu;have hlen:=ha.length;rw[List.length_take,List.length_drop]at hlen;refine⟨p,_,c,rfl,by omega,hnc,?_⟩;rcases hx a1 with rfl|⟨b,hb,rfl⟩
  .grind
  .rcases a5 with a5|⟨b',cs,T,hb',hF,hblk,hsz,hrow⟩
   .simp_all
   .rw[hb]at hb';injection hb' with hb';subst hb';refine .inr ⟨_,_,rfl,LC hi hgo' hm rfl ho hb,iha.2 _ _ _ ?_⟩
    grind[cu,bu]
 |fref hm ho hx ha h iha ih=>
  refine both (λu hu=>?_) ih;obtain⟨a1,a2,a3,a4,a5⟩:=hi.ent _ _ hm;simp only[VRel]at hu⊢;obtain⟨p,rfl,hid,hver,hp⟩:=hu;obtain⟨b,hb,rfl⟩:=hp a1;rcases a5 with a5|⟨b',cs,T,hb',hF,hblk,hsz,hrow⟩
  .simp_all
  .rw[hb]at hb';injection hb' with hb';subst hb';obtain⟨u,k1,k2,k3⟩:=xe.1 hrow _ _ hx;refine⟨b,_,u,rfl,LC hi hgo' hm rfl ho hb,first iha.1 u k1,?_⟩
   grind
 |pt ha h iha ih=>
  refine both (λu hu=>?_) ih;simp only[VRel]at hu⊢;obtain⟨b,off,x,rfl,hF,hd,hh⟩:=hu;exact⟨b,off,x,rfl,.inl hF,first iha.1 x hd,hh⟩
 |fn ha hc h iha ihc ih=>
  refine both (λu hu=>?_) ih;simp only[VRel]at hu⊢
  grind
 |ifc ha h iha ih=>
  refine both (λu hu=>?_) ih;simp only[VRel]at hu⊢
  grind
theorem Ets.get{ρ:jq}{m:List Ent}{os:jq}{es:List Ent}(h:Ets ρ m os es):os.length=es.length/\∀(i:Nat) e,es[i]?=some e->
 (∃j v u S l l',os[i]?=some (some j,v,u)/\m[j]?=some (.live S v l)/\Sbs ρ m l l'/\e=.live S u l')\/(∃S u,os[i]?=some (none,S,u)/\e=.live S u [])\/(∃j l,os[i]?=some (some j,0,0)/\m[j]?=some (.mp l)/\nX l=true/\e=.mp l):=by
 induction h with
 |nil=>simp
 |live hm hl h ih=>
  grind
 |new h ih=>
  grind
 |mp hm hf h ih=>
  grind
theorem Ets.src{ρ:jq}{m:List Ent}{os:jq}{es:List Ent}(h:Ets ρ m os es):∀(i j:Nat) v,os[i]?=some (some j,v)->∃e:Ent,m[j]?=some e/\e.isLive=true/\(∀S v' l,e=.live S v' l->v'=v.1):=by
 induction h with
 |nil=>simp
 |live hm hl h ih=>
  intro i j v hi
  cases i with
  |zero=>
   simp only[Mad,Aad,lad]at hi;obtain⟨rfl,rfl⟩:=hi;exact⟨_,hm,rfl,λS v' l he=>by simp_all⟩
  |succ i=>grind
 |new h ih=>
  grind
 |mp hm hf h ih=>
  intro i j v hi
  cases i with
  |zero=>
   simp only[Mad,Aad,lad]at hi;obtain⟨rfl,rfl⟩:=hi;exact⟨_,hm,rfl,λS v' l he=>nomatch he⟩
  |succ i=>grind
theorem Vd.free{G G':Gh}{w:World}(hG:∀b,G.F b->G'.F b):∀{l:List (Value×D)}{es:List MapEntry},nX l=true->Vd G w l es->Vd G' w l es
 |[],es,_,h=>h
 |(k,d)::l,es,hf,h=>by
  simp only[nX,sae,Sac]at hf;obtain⟨e,r,h0,h1,h2,h3⟩:=h;exact⟨e,r,h0,h1,VRel.free (G':=G') ⟨λ_ h=>hG _ h,λ_ _=>rfl⟩ hf.1 h2,Vd.free hG hf.2 h3⟩
theorem NQ{ρ:jq}(h:(ρ.filterMap (·.1)).Nodup):∀(i i' j:Nat) v v',ρ[i]?=some (some j,v)->ρ[i']?=some (some j,v')->i=i':=by
 induction ρ with
 |nil=>simp
 |cons o os ih=>
  grind
def Jx(ρ:jq):Nat->Bool
 |0=>true
 |n+1=>Jx ρ n&&(match ρ[n]? with|some (some j,v,u)=>j==n&&u==v|_=>false)
theorem mC{ρ:jq}:∀{n:Nat},Jx ρ n=true->∀i,i<n->∃v,ρ[i]?=some (some i,v,v)
 |0,_,i,hi=>absurd hi (lag i)
 |n+1,h,i,hi=>by
  simp only[Jx,Sac]at h;rcases Gae i n with h1|h1
  .exact mC h.1 i h1
  grind
theorem cA{N:Nat}{ρ:jq}{s S:St}(hk:Jx ρ N=true) (h:Tell ρ s S) {G:Gh}{w:World}{a:Act}(hr:Rel G w a s):Rel (Xb G s.m ρ) w a S/\StepN N G w s.m (Xb G s.m ρ) w S.m:=by
 have hi:=hr.inv;have hgo:=h.m.src;have hget:=h.m.get;have hrow:∀{l r:List D},Sbs ρ s.m l r->∀b S off,Ua G w b S l off->Ua (Xb G s.m ρ) w b S r off:=λhs=>(hs.rel hi hgo).2;have hown:∀b,Ze (Xb G s.m ρ) S.m b->Ze G s.m b:=by
  rintro b ⟨i,e,he,hl,hB⟩;rcases hget.2 i e he with⟨j,v,u,S',l,l',h1,h2,h3,rfl⟩|⟨S',u,h1,rfl⟩|⟨j,l,h1,h2,h3,rfl⟩
  .exact⟨j,_,h2,rfl,by grind[Xb]⟩
  .grind[Xb]
  .exact⟨j,_,h2,rfl,by grind[Xb]⟩
 refine⟨⟨(h.t.rel hi hgo).1 _ hr.t,⟨hget.1,?_,?_,?_,hi.gl.bare λ_ h=>.inl h⟩,hr.defers⟩,⟨λ_ hb=>.inl hb,λ_ _=>rfl,?_,?_,rfl,rfl,rfl,cad _,λ_ _ _=>rfl,?_,λb _ hb=>hown b hb⟩⟩
 .rintro b (hb|hb)
  .exact hi.F b hb
  .exact(Ze.lt hi hb.1).1
 .intro i e he;rcases hget.2 i e he with⟨j,v,u,S',l,l',h1,h2,h3,rfl⟩|⟨S',u,h1,rfl⟩|⟨j,l,h1,h2,h3,rfl⟩
  rotate_left 2
  .obtain⟨a1,b',en,cl,hb',hF,hblk,hrw⟩:=hi.ent _ _ h2;refine⟨by grind[Xb],b',en,cl,by grind[Xb],?_,hblk,Vd.free (G':=Xb G s.m ρ) (λ_ h=>Or.inl h) h3 hrw⟩;rintro(hb|⟨_,hb⟩)
   all_goals grind
  .obtain⟨a1,a2,a3,a4,a5⟩:=hi.ent _ _ h2;have hlen:=h3.length;refine⟨by grind[Xb],by grind[Xb],by grind[Xb],by grind[Xb],?_⟩;rcases a5 with a5|⟨b',cs,T,hb',hF,hblk,hsz,hrw⟩
   .grind[Xb]
   .refine .inr ⟨b',cs,T,by grind[Xb],?_,hblk,by grind[Xb],by grind[Xb]⟩;rintro(hb|⟨_,hb⟩)
    all_goals grind
  .exact⟨by grind[Xb],by grind[Xb],by grind[Xb],by simp,.inl (by grind[Xb])⟩
 .intro i i' e e' he he' hl hl' b hb hb';have src:∀(i:Nat) e,S.m[i]?=some e->(Xb G s.m ρ).B i=some b->∃j v e0,ρ[i]?=some (some j,v)/\s.m[j]?=some e0/\e0.isLive=true/\G.B j=some b:=by
   intro i e he hb;rcases hget.2 i e he with⟨j,v,u,S1,l,l',h1,h2,h3,rfl⟩|⟨S1,u,h1,rfl⟩|⟨j,l,h1,h2,h3,rfl⟩
   .exact⟨j,_,_,h1,h2,rfl,by grind[Xb]⟩
   .grind[Xb]
   .exact⟨j,_,_,h1,h2,rfl,by grind[Xb]⟩
  obtain⟨j,v,e0,h1,h2,h3,h4⟩:=src i e he hb;obtain⟨j',v',e0',g1,g2,g3,g4⟩:=src i' e' he' hb';have hj:j=j':=hi.apart j j' _ _ h2 g2 h3 g3 b h4 g4;subst hj;exact NQ h.one _ _ _ _ _ h1 g1
 .cases N with
  |zero=>omega
  |succ n=>
   obtain⟨v,hv⟩:=mC hk n (cag n);exact HC hv
 .intro i hiN;obtain⟨v,hv⟩:=mC hk i hiN;obtain⟨e,he,hl,hver⟩:=hgo _ _ _ hv;have hent:=hi.ent _ _ he;have hV:G.V i=v:=by
   rcases hget.2 i _ (Lac (by grind))with⟨j,v',u,S',l,l',h1,h2,h3,h4⟩|⟨S',u,h1,h4⟩|⟨j,l,h1,h2,h3,h4⟩
   .rw[hv]at h1;injection h1 with h1;injection h1 with h5 h1;injection h5 with h5;injection h1 with h1 h6;subst h5;subst h1;exact(hi.ent _ _ h2).1
   .simp_all
   .rw[hv]at h1;injection h1 with h1;injection h1 with h5 h1;injection h5 with h5;injection h1 with h1 h6;subst h5;subst h1;exact(hi.ent _ _ h2).1
  grind[Xb]
 .rintro b _ (hb|⟨hb,_⟩)
  all_goals simp_all
theorem T.tell{N:Nat}(ρ:jq) {c:C}{K:Exit->St->Prop}{s S:St}(hk:Jx ρ N=true) (h:Tell ρ s S) (hT:Tm.T P N c K S):Tm.T P N c K s:=
 T.ghost (λG w a _ hr=>⟨_,(cA hk h hr).1,(cA hk h hr).2⟩) hT
variable {P:Program} {N:Nat}
inductive Ex (σ β ρ:Type) where
 |go (s:σ)
 |brk (b:β)
 |ret (v:ρ)
section
variable {σ β ρ:Type}
def rq(step:σ->Option (Ex σ β ρ)):Nat->σ->Option (β⊕ρ)
 |0,_=>none
 |n+1,s=>
  match step s with
  |none=>none
  |some (.go s')=>rq step n s'
  |some (.brk b)=>some (.inl b)
  |some (.ret v)=>some (.inr v)
theorem Kz{step:σ->Option (Ex σ β ρ)}:∀{n:Nat}{s:σ}{r},rq step n s=some r->∀k,rq step (n+k) s=some r
 |0,s,r,h,k=>by grind[rq]
 |n+1,s,r,h,k=>by
  rw[show n+1+k=(n+k)+1 by omega];simp only[rq]at h⊢;split
  .simp_all
  .rename_i h';rw[h']at h;exact Kz h k
  all_goals simp_all
open Classical in
noncomputable def da(step:σ->Option (Ex σ β ρ)) (s:σ):Option (β⊕ρ):=
 if h:∃n r,rq step n s=some r then some h.choose_spec.choose else none
theorem UF{step:σ->Option (Ex σ β ρ)}{s:σ}{n:Nat}{r}(h:rq step n s=some r):da step s=some r:=by
 have hex:∃n r,rq step n s=some r:=⟨n,r,h⟩;unfold da;rw[dif_pos hex];have h1:=Kz hex.choose_spec.choose_spec n
 grind[Kz]
theorem AI{step:σ->Option (Ex σ β ρ)}{s:σ}{r}:da step s=some r↔∃n,rq step n s=some r:=by
 grind[da,UF]
theorem Mh{step:σ->Option (Ex σ β ρ)}{s s':σ}(h:step s=some (.go s')):da step s=da step s':=by
 apply Option.ext;intro r;simp only[AI];constructor
 .rintro⟨n,hn⟩
  cases n with
  |zero=>grind[rq]
  |succ n=>grind[rq]
 .rintro⟨n,hn⟩;exact⟨n+1,by grind[rq]⟩
theorem Hd{step:σ->Option (Ex σ β ρ)}{s:σ}{b:β}(h:step s=some (.brk b)):da step s=some (.inl b):=UF (n:=1) (by grind[rq])
theorem By{step:σ->Option (Ex σ β ρ)}{s:σ}{v:ρ}(h:step s=some (.ret v)):da step s=some (.inr v):=UF (n:=1) (by grind[rq])
end
inductive Tells (N:Nat):St->St->Prop
 |refl (s:St):Tells N s s
 |step {s s' S:St} (ρ:jq) (hk:Jx ρ N=true) (h:Tell ρ s s') (t:Tells N s' S):Tells N s S
theorem Tells.one{s S:St}(ρ:jq) (hk:Jx ρ N=true) (h:Tell ρ s S):Tells N s S:=.step ρ hk h (.refl S)
theorem Tells.trans{a b c:St}(h:Tells N a b) (k:Tells N b c):Tells N a c:=by
 induction h with
 |refl=>exact k
 |step ρ hk h t ih=>exact .step ρ hk h (ih k)
theorem T.ZG{c:C}{K:Exit->St->Prop}{s S:St}(h:Tells N s S) (hT:Tm.T P N c K S):Tm.T P N c K s:=by
 induction h with
 |refl=>omega
 |step ρ hk h t ih=>grind[T.tell]
def G0(N:Nat) (K:Exit->St->Prop):Prop:=∀s S,Tells N s S->K .normal S->K .normal s
theorem stb_S{b:C}{K:Exit->St->Prop}:G0 N (KS P N b K):=λs S h k=>T.ZG h k
theorem stb_B{id:Nat}{K:Exit->St->Prop}(h:G0 N K):G0 N (KB id K):=h
def KL{σ β ρ:Type}(N id:Nat) (K:Exit->St->Prop) (S:σ->St) (B:β->St) (z:Ex σ β ρ) (e:Exit) (s':St):Prop:=
 match e with
 |.normal=>match z with|.go x=>Tells N s' (S x)|_=>False
 |.exit j=>if j=id then(match z with|.brk b=>Tells N s' (B b)|_=>False)else K (.exit j) s'
 |e=>K e s'
section
variable {σ β ρ:Type} {id:Nat} {K:Exit->St->Prop} {S:σ->St} {B:β->St} {s':St}
theorem D0{x:σ}:KL N id K S B (.go x:Ex σ β ρ) .normal s'=Tells N s' (S x):=Mac rfl rfl
theorem W2{b:β}{j:Nat}:KL N id K S B (.brk b:Ex σ β ρ) (.exit j) s'=if j=id then Tells N s' (B b)else K (.exit j) s':=Mac rfl rfl
theorem Y2{z:Ex σ β ρ}:KL N id K S B z .ret s'=K .ret s':=Mac rfl rfl
theorem X2{v:ρ}{j:Nat}:KL N id K S B (.ret v:Ex σ β ρ) (.exit j) s'=if j=id then False else K (.exit j) s':=Mac rfl rfl
theorem stb_L{z:Ex σ β ρ}:G0 N (KL N id K S B z):=by
 intro s S' h k
 cases z with
 |go x=>exact h.trans k
 |_=>exact k.elim
theorem T.da{x:C}{s:St}(S:σ->St) (B:β->St) (step:σ->Option (Ex σ β ρ)) (x0:σ) {y:β⊕ρ}(hy:Tm.da step x0=some y) (hs:Tells N s (S x0)) (hst:G0 N K)
 (round:∀a z,step a=some z->(∀v,z=.ret v->y=.inr v)->Tm.T P N x (KL N id K S B z) (S a))
 (rest:∀b,y=.inl b->K .normal (B b)):Tm.T P N (.block id (.loop x)) K s:=by
 obtain⟨n,hn⟩:=AI.1 hy;clear hy;refine T.block (T.N1 (X:=Nat×σ) (λp s=>Tells N s (S p.2)/\rq step p.1 p.2=some y) (λp=>p.1) (n,x0) ⟨hs,hn⟩ ?_);rintro⟨n,x1⟩ s1 ⟨hs1,hn1⟩;refine T.ZG hs1 ?_
 cases n with
 |zero=>grind[rq]
 |succ n=>
  cases hz:step x1 with
  |none=>grind[rq]
  |some z=>
   simp only[rq,hz]at hn1;refine(round x1 z hz (λv hv=>by simp_all)).mono ?_;intro e s' h
   cases e with
   |normal=>
    cases z with
    |go x2=>exact⟨(n,x2),⟨by grind[D0],hn1⟩,cag n⟩
    |_=>exact(h:False).elim
   |exit j=>
    simp only[KL]at h⊢;split
    .rename_i hj;rw[if_pos hj]at h
     cases z with
     |brk b=>exact hst _ _ h (rest b (nad hn1).symm)
     |_=>simp_all
    simp_all
   |ret=>exact h
   |_=>exact h
end
def KJ{X R:Type}(N:Nat) (K:Exit->St->Prop) (S:X->St) (z:X⊕R) (e:Exit) (s':St):Prop:=
 match e with
 |.normal=>match z with|.inl x=>Tells N s' (S x)|.inr _=>False
 |e=>K e s'
section
variable {X R:Type} {K:Exit->St->Prop} {S:X->St} {s':St}
theorem XH{x:X}:KJ N K S (.inl x:X⊕R) .normal s'=Tells N s' (S x):=Mac rfl rfl
theorem wW{z:X⊕R}{j:Nat}:KJ N K S z (.exit j) s'=K (.exit j) s':=Mac rfl rfl
theorem V2{z:X⊕R}:KJ N K S z .ret s'=K .ret s':=Mac rfl rfl
theorem stb_J{z:X⊕R}:G0 N (KJ N K S z):=by
 intro s S' h k
 cases z with
 |inl x=>exact h.trans k
 |inr _=>exact k.elim
theorem T.join{a b:C}{s:St}(S:X->St) (z:X⊕R) (ha:Tm.T P N a (KJ N K S z) s) (hb:∀x,z=.inl x->Tm.T P N b K (S x)):Tm.T P N (.seq a b) K s:=by
 refine T.seq (ha.mono ?_);intro e s' h
 cases e with
 |normal=>
  cases z with
  |inl x=>exact T.ZG (by grind[XH]) (hb x rfl)
  |inr _=>exact(h:False).elim
 |_=>exact h
end
variable {P:Program}
def Den(P:Program) (k:Nat) (ds:List D) (o:D):Prop:=∀m,CallT P k ds m λd m'=>d=o/\m'=m
theorem RG{m:List Ent}{l r:List D}(h:Sbs [] m l r):ja r=true:=by
 induction h<;>simp_all[ja,la]
theorem Sbs.v{ρ:jq}{m:List Ent}{x:Value}{l r:List D}(h:Sbs ρ m l r):Sbs ρ m (.v x::l) (.v x::r):=.same rfl h
theorem Sbs.free{ρ:jq}{m:List Ent}:∀{l:List D},ja l=true->Sbs ρ m l l
 |[],_=>.nil
 |d::l,h=>by simp only[ja,Sac]at h;exact .same h.1 (Sbs.free h.2)
theorem Sbs.app{ρ:jq}{m:List Ent}{a b c d:List D}(h1:Sbs ρ m a b) (h2:Sbs ρ m c d):Sbs ρ m (a++c) (b++d):=by
 induction h1 with
 |nil=>exact h2
 |same hf h ih=>exact .same hf ih
 |dead h ih=>exact .dead ih
 |nils h ih=>exact .nils ih
 |RC i hi h ih=>exact .RC i hi ih
 |agg ha h _ ih=>exact .agg ha ih
 |tup ha h _ ih=>exact .tup ha ih
 |sl ha h _ ih=>exact .sl ha ih
 |own hi h ih=>exact .own hi ih
 |ref hi h ih=>exact .ref hi ih
 |view hi h ih=>exact .view hi ih
 |mp hi h ih=>exact .mp hi ih
 |Ye hm ho ha h _ ih=>exact .Ye hm ho ha ih
 |fview hm ho hn ha h _ ih=>exact .fview hm ho hn ha ih
 |fref hm ho hx ha h _ ih=>exact .fref hm ho hx ha ih
 |pt ha h _ ih=>exact .pt ha ih
 |fn ha hc h _ _ ih=>exact .fn ha hc ih
 |ifc ha h _ ih=>exact .ifc ha ih
class Fr {α:Type} (e:α->D):Prop where
 h:∀x,la (e x)=true
theorem FA{α:Type}{e:α->D}(h:∀x,la (e x)=true):∀l:List α,ja (l.map e)=true
 |[]=>rfl
 |x::l=>by simp[ja,h x,FA h l]
theorem Fr.l{α:Type}{e:α->D} [Fr e] (l:List α):ja (l.map e)=true:=FA Fr.h l
theorem Fr.s{α:Type}{e:α->D} [Fr e] (S:Nat) (l:List α):la (.sl S (l.map e))=true:=Fr.l (e:=e) l
theorem Qq{N:Nat}{s S:St}(h:Tells N s S):∀{G:Gh}{w:World}{a:Act},N<=G.n->Rel G w a s->∃G',Rel G' w a S/\StepN N G w s.m G' w S.m:=by
 induction h with
 |refl s=>grind[StepN.refl]
 |step ρ hk h t ih=>
  intro G w a hN hr;obtain⟨h1,h2⟩:=cA hk h hr;obtain⟨G',h3,h4⟩:=ih h2.n h1;exact⟨G',h3,h2.trans h4⟩
def oH(rs:List RV) (o:D) (e:Exit) (s:St):Prop:=
 match e with
 |.normal=>∃S,Tells 0 s S/\∃ds,Cb S rs=some ds/\Sbs [] S.m [Kn ds] [o]
 |.ret=>∃S,Tells 0 s S/\∃ds,Cb S rs=some ds/\Sbs [] S.m [Kn ds] [o]
 |_=>False
def kL(r:Option (List D)) (m:List Ent) (o:D):Prop:=∃ds,r=some ds/\Sbs [] m [Kn ds] [o]
def Fin(m:List Ent) (d o:D):Prop:=Sbs [] m [d] [o]
theorem Ul{ds:List D}{m:List Ent}{o:D}:kL (some ds) m o=Fin m (Kn ds) o:=by simp[kL,Fin]
@[congr] theorem V4{r r':Option (List D)} {m:List Ent} {o:D} (h:r=r'):kL r m o=kL r' m o:=by rw[h]
theorem nn{rs:List RV}{o:D}{s:St}(h:kL (Cb s rs) s.m o):oH rs o .ret s:=by
 obtain⟨ds,h1,h2⟩:=h;exact⟨s,.refl s,ds,h1,h2⟩
theorem stb_F{rs:List RV}{o:D}:G0 0 (oH rs o):=by
 rintro s S h ⟨S',h1,h2⟩;exact⟨S',h.trans h1,h2⟩
theorem LK{f:FuncId}{ds:List D}{o:D}(hf:ja ds=true) (h:CallT P f ds [] λd m'=>Sbs [] m' [d] [o]):Den P f ds o:=by
 refine λm=>⟨h.1,λG w vs hv hi=>?_⟩;have h0:=h.2 (Gh.bare G.F) w vs (VsRel.free (G:=G) (G':=Gh.bare G.F) ⟨λ_ h=>h,λ_ _=>rfl⟩ hf hv) (JA hi.F (hi.gl.bare λ_ h=>h));refine h0.mono ?_;rintro e w' ⟨v,d,m',G',rfl,hR,hvd,hi',hs⟩;obtain⟨-,-,h3⟩:=dI hi hs hi' (λ_ h=>h);obtain⟨g1,g2⟩:=h3 λ_ h=>h;refine⟨v,o,m,_,rfl,⟨rfl,rfl⟩,?_,g1,g2⟩;have hT:=(hR.rel hi' (λi j v h=>by grind)).1 [v] (by simp only[VsRel];simp_all);simp only[VsRel]at hT;obtain⟨u,us,he,h1,_⟩:=hT;injection he with he _;subst he;have hfree:=RG hR;simp only[ja,Xac]at hfree;refine VRel.free (G:=Xb G' m' []) (G':={ G with F:=λb=>G'.F b\/Ze G' m' b }) ⟨?_,λ_ _=>rfl⟩ hfree h1;rintro b (hb|⟨hb,_⟩)
 all_goals simp_all
theorem Den.of{k:Nat}{F:Fun}{ds:List D}{o:D}(hF:rv P k=some F) (hname:((P.funcs[k]?).map λfn=>fn.name == "runtime.NumGoroutine")=some false) (hf:ja ds=true)
 (h:T P 0 F.code (oH F.results o) ⟨ds++Nac (F.ntmps-ds.length) .dead,[]⟩):Den P k ds o:=by
 refine LK hf (Oj hF hname ?_);refine T.uS (h.mono ?_);have key:∀(e:Exit) (s:St),(∀s',wz F.results (λd m'=>Sbs [] m' [d] [o]) e s' = ∃ds,Cb s' F.results=some ds/\Sbs [] s'.m [Kn ds] [o])->(∃S,Tells 0 s S/\∃ds,Cb S F.results=some ds/\Sbs [] S.m [Kn ds] [o])->rK 0 (wz F.results λd m'=>Sbs [] m' [d] [o]) e s:=by
  intro e s he ⟨S,h1,h2⟩ G w a hN hr;obtain⟨G',h3,h4⟩:=Qq h1 hN hr
  grind
 intro e s hs
 cases e with
 |normal=>exact key _ s (λ_=>rfl) hs
 |ret=>exact key _ s (λ_=>rfl) hs
 |_=>exact(hs:False).elim
theorem Cz{k:Nat}{ds ds':List D}{o:D}{m:List Ent}{f:D->List Ent->Prop}(h:Den P k ds' o) (hs:Sbs [] m ds ds') (hfl:flat o=true) (hf:f o m):af P k ds m f:=by
 refine Ub (m1:=m) (d1:=o) ⟨(h []).1,λG w vs hv hi=>?_⟩ hf;have hv1:=(hs.rel hi (λi j v h=>by grind)).1 vs hv;have hv':VsRel (Gh.bare (Xb G m []).F) w ds' vs:=VsRel.free (G:=Xb G m []) ⟨λ_ h=>h,λ_ _=>rfl⟩ (RG hs) hv1;have h0:=(h []).2 _ w vs hv' (JA (λb hb=>by
  rcases hb with hb|⟨hb,_⟩
  .exact hi.F b hb
  .exact(Ze.lt hi hb).1) (hi.gl.bare λ_ h=>.inl h))
 refine h0.mono ?_;rintro e w' ⟨v,d,m',G',rfl,⟨rfl,-⟩,hvd,hi',hs'⟩;obtain⟨-,h2,-⟩:=dI hi hs' hi' (λ_ h=>.inl h);exact⟨v,d,m,G,rfl,⟨rfl,rfl⟩,hvd.flat hfl,h2.1,h2.2⟩
def idx{α:Type}(l:List α) (i:Int):Option α:=if 0<=i then l[i.toNat]? else none
def app{α:Type}(b:Nat) (l r:List α):Option (List α):=if(l.length+r.length)*b<=2 ^ 47 then some (l++r)else none
def put{α:Type}(l:List α) (i:Int) (x:α):Option (List α):=if 0<=i/\i.toNat<l.length then some (l.set i.toNat x)else none
def Ww{α:Type}(b:Nat) (x:α) (n c:Int):Option (List α):=if 0<=n/\n<=c/\c<=2 ^ 62/\c.toNat*b<=2 ^ 48 then some (Nac n.toNat x)else none
def quo(k:IntKind) (a b:Int):Option Int:=if b=0 then none else some (ca k (a.tdiv b))
def rem(k:IntKind) (a b:Int):Option Int:=if b=0 then none else some (a.tmod b)
theorem OF{α:Type}{l:List α}{i:Int}{x:α}(h:idx l i=some x):0<=i/\l[i.toNat]?=some x:=by
 grind[idx]
theorem WR{α:Type}{b:Nat}{l r x:List α}(h:app b l r=some x):(l.length+r.length)*b<=140737488355328/\x=l++r:=by
 grind[app]
theorem EU{α:Type}{l x:List α}{i:Int}{y:α}(h:put l i y=some x):0<=i/\i.toNat<l.length/\x=l.set i.toNat y:=by
 grind[put]
theorem dU{α:Type}{b:Nat}{x:α}{n c:Int}{l:List α}(h:Ww b x n c=some l):0<=n/\n<=c/\c<=4611686018427387904/\c.toNat*b<=281474976710656/\l=Nac n.toNat x:=by
 grind[Ww]
theorem Ln{α β:Type}{o:Option α}{f:α->Option β}{r:β}(h:o.bind f=some r):∃x,o=some x/\f x=some r:=vae.1 h
variable {P:Program} {N:Nat}
def QC(f:D->D->Prop):List D->List D->Prop
 |[],[]=>True
 |d::l,e::r=>f d e/\QC f l r
 |_,_=>False
def yw(f:D->D->Prop) (a b:List D):Prop:=(a=b/\ja a=true)\/QC f a b
def Sq(ρ:jq) (m:List Ent):Nat->D->D->Prop
 |0,_,_=>False
 |n+1,d,e=>
  match e with
  |.dead=>True
  |.v y=>match d with|.v x=>x=y|_=>False
  |.agg b=>match d with|.agg a=>yw (Sq ρ m n) a b|_=>False
  |.tup b=>match d with|.tup a=>yw (Sq ρ m n) a b|_=>False
  |.sl S b=>
   match d with
   |.v x=>x=.slice none 0 0/\b=[]
   |.sl S' a=>S'=S/\yw (Sq ρ m n) a b
   |.own j v=>
    match m[j]? with
    |some (.live S' v' a)=>S'=S/\v'=v/\Oz ρ j=true/\yw (Sq ρ m n) a b
    |_=>False
   |.view j v lo k=>
    match m[j]? with
    |some (.live S' v' a)=>S'=S/\v'=v/\Oz ρ j=true/\lo+k<=a.length/\yw (Sq ρ m n) ((a.drop lo).take k) b
    |_=>False
   |_=>False
  |.own i u=>
   match d with
   |.own j v=>ρ[i]?=some (some j,v,u)
   |.v x=>x=.slice none 0 0/\∃S,ρ[i]?=some (none,S,u)
   |_=>False
  |.ref i u x s=>match d with|.ref j v x' s'=>ρ[i]?=some (some j,v,u)/\x'=x/\s'=s|_=>False
  |.view i u lo k=>match d with|.view j v lo' k'=>ρ[i]?=some (some j,v,u)/\lo'=lo/\k'=k|_=>False
  |.pt e'=>
   match d with
   |.pt d'=>(d'=e'/\la d'=true)\/Sq ρ m n d' e'
   |.ref j v x s=>
    match m[j]? with
    |some (.live _ v' a)=>v'=v/\s=0/\Oz ρ j=true/\(match a[x]? with|some d'=>(d'=e'/\la d'=true)\/Sq ρ m n d' e'|none=>False)
    |_=>False
   |_=>False
  |.fn f b d'=>match d with|.fn f' a c=>f'=f/\yw (Sq ρ m n) a b/\yw (Sq ρ m n) c d'|_=>False
  |.mp i=>match d with|.mp j=>ρ[i]?=some (some j,0,0)|_=>False
  |.ifc t e'=>match d with|.ifc t' d'=>t'=t/\((d'=e'/\la d'=true)\/Sq ρ m n d' e')|_=>False
theorem Gy{ρ:jq}{m:List Ent}{f:D->D->Prop}(hf:∀d e l r,f d e->Sbs ρ m l r->Sbs ρ m (d::l) (e::r)):∀{a b:List D},QC f a b->Sbs ρ m a b
 |[],[],_=>.nil
 |d::l,e::r,h=>hf d e l r h.1 (Gy hf h.2)
 |[],_::_,h=>h.elim
 |_::_,[],h=>h.elim
theorem Su{ρ:jq}{m:List Ent}{f:D->D->Prop}(hf:∀d e l r,f d e->Sbs ρ m l r->Sbs ρ m (d::l) (e::r)) {a b:List D}(h:yw f a b):Sbs ρ m a b:=by
 rcases h with⟨rfl,h⟩|h
 all_goals grind[Sbs.free,Gy]
theorem pw{ρ:jq}{m:List Ent}:∀(n:Nat) (d e:D) (l r:List D),Sq ρ m n d e->Sbs ρ m l r->Sbs ρ m (d::l) (e::r)
 |0,d,e,l,r,h,_=>h.elim
 |n+1,d,e,l,r,h,hs=>by
  have ih:=pw (ρ:=ρ) (m:=m) n;have one:∀d' e',((d'=e'/\la d'=true)\/Sq ρ m n d' e')->Sbs ρ m [d'] [e']:=by
   rintro d' e' (⟨rfl,h⟩|h)
   .exact .same h .nil
   .exact ih _ _ _ _ h .nil
  cases e with
  |dead=>exact .dead hs
  |v y=>cases d<;>simp only[Sq]at h;subst h;exact .v hs
  |agg b=>cases d<;>simp only[Sq]at h;exact .agg (Su ih h) hs
  |tup b=>cases d<;>simp only[Sq]at h;exact .tup (Su ih h) hs
  |sl S b=>
   cases d with
   |v x=>simp only[Sq]at h;obtain⟨rfl,rfl⟩:=h;exact .nils hs
   |sl S' a=>simp only[Sq]at h;obtain⟨rfl,h⟩:=h;exact .sl (Su ih h) hs
   |own j v=>
    simp only[Sq]at h;split at h
    .rename_i S' v' a hm;obtain⟨rfl,rfl,ho,h⟩:=h;exact .Ye hm ho (Su ih h) hs
    simp_all
   |view j v lo k=>
    simp only[Sq]at h;split at h
    .rename_i S' v' a hm;obtain⟨rfl,rfl,ho,hl,h⟩:=h;exact .fview hm ho hl (Su ih h) hs
    simp_all
   |_=>simp only[Sq]at h
  |own i u=>
   cases d with
   |own j v=>simp only[Sq]at h;exact .own h hs
   |v x=>simp only[Sq]at h;obtain⟨rfl,S,h⟩:=h;exact .RC i h hs
   |_=>simp only[Sq]at h
  |ref i u x s=>cases d<;>simp only[Sq]at h;obtain⟨h,rfl,rfl⟩:=h;exact .ref h hs
  |view i u lo k=>cases d<;>simp only[Sq]at h;obtain⟨h,rfl,rfl⟩:=h;exact .view h hs
  |pt e'=>
   cases d with
   |pt d'=>simp only[Sq]at h;exact .pt (one _ _ h) hs
   |ref j v x s=>
    simp only[Sq]at h;split at h
    .rename_i S' v' a hm;obtain⟨rfl,rfl,ho,h⟩:=h;split at h
     .rename_i d' hd;exact .fref hm ho hd (one _ _ h) hs
     simp_all
    simp_all
   |_=>simp only[Sq]at h
  |fn f b d'=>cases d<;>simp only[Sq]at h;obtain⟨rfl,h1,h2⟩:=h;exact .fn (Su ih h1) (Su ih h2) hs
  |mp i=>cases d<;>simp only[Sq]at h;exact .mp h hs
  |ifc t e'=>cases d<;>simp only[Sq]at h;obtain⟨rfl,h⟩:=h;exact .ifc (one _ _ h) hs
def PC(ρ:jq) (m:List Ent):jq->List Ent->Prop
 |[],[]=>True
 |(some j,v,u)::os,.live S u' b::es=>u=u'/\(match m[j]? with|some (.live S' v' a)=>S'=S/\v'=v/\yw (Sq ρ m 9) a b|_=>False)/\PC ρ m os es
 |(none,S,u)::os,.live S' u' b::es=>S=S'/\u=u'/\b=[]/\PC ρ m os es
 |(some j,v,u)::os,.mp b::es=>v=0/\u=0/\(match m[j]? with|some (.mp a)=>a=b/\nX b=true|_=>False)/\PC ρ m os es
 |_,_=>False
theorem mE{ρ:jq}{m:List Ent}:∀{os:jq}{es:List Ent},PC ρ m os es->Ets ρ m os es
 |[],[],_=>.nil
 |(some j,v,u)::os,.live S u' b::es,h=>by
  simp only[PC]at h;obtain⟨rfl,h1,h2⟩:=h;split at h1
  .rename_i S' v' a hm;obtain⟨rfl,rfl,h1⟩:=h1;exact .live hm (Su (pw 9) h1) (mE h2)
  simp_all
 |(none,S,u)::os,.live S' u' b::es,h=>by
  simp only[PC]at h;obtain⟨rfl,rfl,rfl,h2⟩:=h;exact .new (mE h2)
 |[],_::_,h=>by simp[PC]at h
 |_::_,[],h=>by simp[PC]at h
 |(some j,v,u)::os,.mp b::es,h=>by
  simp only[PC]at h;obtain⟨rfl,rfl,h1,h2⟩:=h;split at h1
  .rename_i a hm;obtain⟨rfl,h1⟩:=h1;exact .mp hm h1 (mE h2)
  simp_all
 |(some j,v,u)::os,.gone::es,h=>by simp[PC]at h
 |(none,S,u)::os,.mp _::es,h=>by simp[PC]at h
 |(none,S,u)::os,.gone::es,h=>by simp[PC]at h
theorem Tells.q(ρ:jq) {s S:St}(hk:Jx ρ N=true) (h3:(ρ.filterMap (·.1)).Nodup) (h:QC (Sq ρ s.m 9) s.t S.t/\PC ρ s.m ρ S.m):Tells N s S:=
 .one ρ hk ⟨Gy (pw 9) h.1,mE h.2,h3⟩
section
variable {ρ:jq} {m:List Ent} {n:Nat} {d e:D} {a b c l r:List D} {x y:Value} {S S' i j u v k lo q s:Nat}
theorem uZ{f:D->D->Prop}:QC f [] []=True:=Mac rfl rfl
theorem FV{f:D->D->Prop}:QC f (d::l) (e::r)=(f d e/\QC f l r):=Mac rfl rfl
theorem pf{f:D->D->Prop}(h:ja a=true):yw f a a=True:=by simp[yw,h]
theorem sqS_L{f:D->D->Prop}:yw f (d::l) (e::r)=(((d::l=e::r)/\ja (d::l)=true)\/(f d e/\QC f l r)):=Mac rfl rfl
theorem wZ{f:D->D->Prop}:yw f [] []=True:=by simp[yw,ja]
theorem xZ:Sq ρ m (n+1) d .dead=True:=Mac rfl rfl
theorem sq_v:Sq ρ m (n+1) (.v x) (.v y)=(x=y):=Mac rfl rfl
theorem O8:Sq ρ m (n+1) (.agg a) (.agg b)=yw (Sq ρ m n) a b:=Mac rfl rfl
theorem R8:Sq ρ m (n+1) (.tup a) (.tup b)=yw (Sq ρ m n) a b:=Mac rfl rfl
theorem BZ:Sq ρ m (n+1) (.v x) (.sl S b)=(x=.slice none 0 0/\b=[]):=Mac rfl rfl
theorem sq_sl:Sq ρ m (n+1) (.sl S' a) (.sl S b)=(S'=S/\yw (Sq ρ m n) a b):=Mac rfl rfl
theorem AZ:Sq ρ m (n+1) (.own j v) (.sl S b)=(match m[j]? with|some (.live S' v' a)=>S'=S/\v'=v/\Oz ρ j=true/\yw (Sq ρ m n) a b|_=>False):=Mac rfl rfl
theorem HV:Sq ρ m (n+1) (.view j v lo k) (.sl S b)=(match m[j]? with|some (.live S' v' a)=>S'=S/\v'=v/\Oz ρ j=true/\lo+k<=a.length/\yw (Sq ρ m n) ((a.drop lo).take k) b|_=>False):=Mac rfl rfl
theorem P8:Sq ρ m (n+1) (.own j v) (.own i u)=(ρ[i]?=some (some j,v,u)):=Mac rfl rfl
theorem GV:Sq ρ m (n+1) (.v x) (.own i u)=(x=.slice none 0 0/\∃S,ρ[i]?=some (none,S,u)):=Mac rfl rfl
theorem Q8:Sq ρ m (n+1) (.ref j v q s) (.ref i u k lo)=(ρ[i]?=some (some j,v,u)/\q=k/\s=lo):=Mac rfl rfl
theorem CZ{lo' k':Nat}:Sq ρ m (n+1) (.view j v lo' k') (.view i u lo k)=(ρ[i]?=some (some j,v,u)/\lo'=lo/\k'=k):=Mac rfl rfl
theorem sq_pt:Sq ρ m (n+1) (.pt d) (.pt e)=((d=e/\la d=true)\/Sq ρ m n d e):=Mac rfl rfl
theorem zZ:Sq ρ m (n+1) (.ref j v q s) (.pt e)=(match m[j]? with
 |some (.live _ v' a)=>v'=v/\s=0/\Oz ρ j=true/\(match a[q]? with|some d'=>(d'=e/\la d'=true)\/Sq ρ m n d' e|none=>False)
 |_=>False):=Mac rfl rfl
theorem sq_fn{f f':FuncId}{d':List D}:Sq ρ m (n+1) (.fn f' a c) (.fn f b d')=(f'=f/\yw (Sq ρ m n) a b/\yw (Sq ρ m n) c d'):=Mac rfl rfl
theorem Z4:PC ρ m [] []=True:=Mac rfl rfl
theorem iX{os:jq}{es:List Ent}{u':Nat}:PC ρ m ((some j,v,u)::os) (.live S u' b::es)=(u=u'/\(match m[j]? with|some (.live S' v' a)=>S'=S/\v'=v/\yw (Sq ρ m 9) a b|_=>False)/\PC ρ m os es):=by simp only[PC]
theorem Y4{os:jq}{es:List Ent}{u':Nat}:PC ρ m ((none,S,u)::os) (.live S' u' b::es)=(S=S'/\u=u'/\b=[]/\PC ρ m os es):=by simp only[PC]
theorem sq_mp:Sq ρ m (n+1) (.mp j) (.mp i)=(ρ[i]?=some (some j,0,0)):=Mac rfl rfl
theorem iaa{os:jq}{es:List Ent}{b:List (Value×D)}:PC ρ m ((some j,v,u)::os) (.mp b::es)=(v=0/\u=0/\(match m[j]? with|some (.mp a)=>a=b/\nX b=true|_=>False)/\PC ρ m os es):=by simp only[PC]
theorem oX:nX []=true:=Mac rfl rfl
theorem vU:Oz [] j=true:=Mac rfl rfl
theorem TQ{o:Option Nat×Nat×Nat}:Oz (o::ρ) j=((match o.1 with|some k=>k !=j|none=>true)&&Oz ρ j):=Mac rfl rfl
end
theorem rI{m:List Ent}{d o:D}(h:Sq [] m 9 d o):Fin m d o:=pw 9 d o [] [] h .nil
theorem QG{G:Gh}{w:World}{l r:List D}(h:Sbs [] [] l r):(∀us,VsRel G w l us->VsRel G w r us)/\(∀b S off,Ua G w b S l off->Ua G w b S r off):=by
 have both:∀{d e:D} {l r:List D},(∀u,VRel G w d u->VRel G w e u)->
  ((∀us,VsRel G w l us->VsRel G w r us)/\(∀b S off,Ua G w b S l off->Ua G w b S r off))->
  ((∀us,VsRel G w (d::l) us->VsRel G w (e::r) us)/\(∀b S off,Ua G w b S (d::l) off->Ua G w b S (e::r) off)):=by
  intro d e l r h1 h2;refine⟨λus hv=>?_,λb S off hv=>?_⟩
  .simp only[VsRel]at hv⊢
   grind
  .simp only[Ua]at hv⊢
   grind
 have first:∀{d e:D},(∀us,VsRel G w [d] us->VsRel G w [e] us)->∀u,VRel G w d u->VRel G w e u:=by
  intro d e h u hu;have:=h [u] (by simp only[VsRel];simp_all);simp only[VsRel]at this
  simp_all
 induction h with
 |nil=>simp
 |same hf h ih=>exact both (λu hu=>hu) ih
 |dead h ih=>exact both (λu _=>by simp[VRel]) ih
 |nils h ih=>exact both (λu hu=>by simp only[VRel]at hu⊢;grind) ih
 |agg ha h iha ih=>
  refine both (λu hu=>?_) ih;simp only[VRel]at hu⊢
  grind
 |tup ha h iha ih=>
  refine both (λu hu=>?_) ih;simp only[VRel]at hu⊢
  grind
 |sl ha h iha ih=>
  refine both (λu hu=>?_) ih;simp only[VRel]at hu⊢;obtain⟨a,n,cap,rfl,hn,hc,g⟩:=hu;refine⟨a,n,cap,rfl,by rw[←ha.length];omega,hc,?_⟩;rcases g with rfl|⟨b,off,rfl,hF,hr⟩
  .exact .inl (gad ha.length.symm)
  grind
 |pt ha h iha ih=>
  refine both (λu hu=>?_) ih;simp only[VRel]at hu⊢
  grind
 |fn ha hc h iha ihc ih=>
  refine both (λu hu=>?_) ih;simp only[VRel]at hu⊢
  grind
 |ifc ha h iha ih=>
  refine both (λu hu=>?_) ih;simp only[VRel]at hu⊢
  grind
 |RC i hi=>simp at hi
 |own hi=>simp at hi
 |ref hi=>simp at hi
 |view hi=>simp at hi
 |mp hi=>simp at hi
 |Ye hm=>simp at hm
 |fview hm=>simp at hm
 |fref hm=>simp at hm
theorem kE{k:Nat}{ds ds':List D}{o:D}{m:List Ent}{f:D->List Ent->Prop}(h:Den P k ds' o) (hf:f o m) (hs:QC (Sq [] [] 9) ds ds'):af P k ds m f:=
 Ub (m1:=m) (d1:=o) ⟨(h m).1,λG w vs hv hi=>(h m).2 G w vs ((QG (Gy (pw 9) hs)).1 vs hv) hi⟩ hf
theorem KE{k:Nat}{ds ds':List D}{o:D}{m:List Ent}{f:D->List Ent->Prop}(h:Den P k ds' o) (hf:f o m) (hfl:flat o=true) (hs:QC (Sq [] m 9) ds ds'):af P k ds m f:=
 Cz h (Gy (pw 9) hs) hfl hf
section
variable {K:Exit->St->Prop} {s:St} {l:List RI} {a b:C} {c:Operand} {t:Bool} {id q:Nat}
theorem T.rg(h:Zg P l (K .normal) s):Tm.T P N (.TJ l) K s:=T.TJ (Cs h)
theorem T.cd(ht:s.ev c=.v (.bool t)) (h:gP (t=true) (Tm.T P N a K s) (Tm.T P N b K s)):Tm.T P N (.cond c a b) K s:=
 T.cond ht (λe=>h.1 e) (λe=>h.2 (by grind))
theorem T.bk(h:Tm.T P N a (KB id K) s):Tm.T P N (.block id a) K s:=T.block (h.mono λe s' h'=>by cases e<;>exact h')
theorem T.sr(h:Zg P l (KS P N b K .normal) s):Tm.T P N (.seq (.TJ l) b) K s:=T.Yy (T.rg h)
theorem gP.ite{p q Y N:Prop} [Decidable q] {α:Type}{A B:Option α}{r:α}(h:(if q then A else B)=some r) (hpq:p↔q) (h1:q->A=some r->Y) (h2:¬q->B=some r->N):gP p Y N:=by
 by_cases c:q
 .rw[if_pos c]at h;exact⟨λ_=>h1 c h,λhp=>(hp (hpq.2 c)).elim⟩
 .rw[if_neg c]at h;exact⟨λhp=>(c (hpq.1 hp)).elim,λ_=>h2 c h⟩
end
def ds:Nat->List D->List D
 |0,l=>l
 |n+1,l=>.dead::ds n l
theorem vo{l:List D}:ds 0 l=l:=Mac rfl rfl
theorem tn{n:Nat}{l:List D}:ds (n+1) l=.dead::ds n l:=Mac rfl rfl
variable {P:Program} {N:Nat}
def L1(ok:Bool) (z:D) (m:List Ent) (o:Option D):Option (D×List Ent):=
 match o with
 |some d=>some (if ok then .tup [d,.v (.bool true)]else d,m)
 |none=>some (if ok then .tup [z,.v (.bool false)]else z,m)
def mlk{β:Type}:List (Int×β)->Int->Option β
 |[],_=>none
 |(q,x)::l,k=>if k=q then some x else mlk l k
def em{β:Type}(e:β->D) (l:List (Int×β)):List (Value×D):=l.map λp=>(.int .i64 p.1,e p.2)
theorem OO{β:Type}{e:β->D}{k:Int}:∀{l:List (Int×β)},oz (.int .i64 k) (em e l)=(mlk l k).map e
 |[]=>Mac rfl rfl
 |(q,x)::l=>by
  have ih:=OO (e:=e) (k:=k) (l:=l);simp only[em]at ih;simp only[em,Bad,oz,Lx,mlk,beq_iff_eq,ih];split<;>rfl
theorem J3{β:Type}{e:β->D}{l:List (Int×β)}:((em e l).all λq=>isKey 0 q.1)=true:=by
 simp[em,isKey]
theorem U4{β:Type}{e:β->D}:em e []=[]:=Mac rfl rfl
theorem T4{β:Type}{e:β->D}{l:List (Int×β)}:(em e l).length=l.length:=by simp[em]
theorem u5{β:Type}{e:β->D} [Fr e] {l:List (Int×β)}:nX (em e l)=true:=by
 simp only[nX,em,List.all_map,Kad];exact λx _=>Fr.h x.2
theorem KX{k:Int}:isKey 0 (.int .i64 k)=true:=Mac rfl rfl
def fu(b:ByteArray) (i:Int):Option Int:=if h:0<=i/\i.toNat<b.size then some ((b[i.toNat]'h.2).toNat:Int)else none
def Nt:Nat->List D->Bool
 |0,[]=>true
 |n+1,_::l=>Nt n l
 |_,_=>false
theorem Iq:∀{n:Nat}{l:List D},Nt n l=true↔l.length=n
 |0,[]=>by simp[Nt]
 |n+1,_::l=>by simp[Nt,Iq (n:=n) (l:=l)]
 |0,_::_=>by simp[Nt]
 |_+1,[]=>by simp[Nt]
def Gx:Nat->Nat->List D->Bool
 |0,0,_=>true
 |0,n+1,_::l=>Gx 0 n l
 |o+1,n,_::l=>Gx o n l
 |_,_,[]=>false
theorem Dr:∀{o n:Nat}{l:List D},Gx o n l=true↔o+n<=l.length
 |0,0,l=>by simp[Gx]
 |0,n+1,_::l=>by simp[Gx,Dr (o:=0) (n:=n) (l:=l)]
 |o+1,n,_::l=>by simp[Gx,Dr (o:=o) (n:=n) (l:=l)];omega
 |0,n+1,[]=>by simp[Gx]
 |o+1,n,[]=>by simp[Gx]
theorem n7:Nt 0 []=true:=Mac rfl rfl
theorem RX{n:Nat}{d:D}{l:List D}:Nt (n+1) (d::l)=Nt n l:=Mac rfl rfl
theorem h2_z{l:List D}:Gx 0 0 l=true:=by cases l<;>rfl
theorem h2_n{n:Nat}{d:D}{l:List D}:Gx 0 (n+1) (d::l)=Gx 0 n l:=Mac rfl rfl
theorem h2_o{o n:Nat}{d:D}{l:List D}:Gx (o+1) n (d::l)=Gx o n l:=by cases n<;>rfl
theorem q_mv:type_of% @fa.eq_1:=by intros;exact Mac rfl rfl
theorem o8:type_of% @fa.eq_2:=by intros;exact Mac rfl rfl
theorem q_bin:type_of% @fa.eq_3:=by intros;exact Mac rfl rfl
theorem q_beq:type_of% @fa.eq_4:=by intros;exact Mac rfl rfl
theorem q_un:type_of% @fa.eq_5:=by intros;exact Mac rfl rfl
theorem X7:type_of% @fa.eq_6:=by intros;exact Mac rfl rfl
theorem zY:type_of% @fa.eq_7:=by intros;exact Mac rfl rfl
theorem q_box{s:St}{S:Nat}{x:Operand}:fa s (.box S x)=if(s.ev x).ok=true/\Nt S (s.ev x).cells=true then some (.ref s.m.length 0 0 0,s.m++[.live S 0 [s.ev x]])else none:=by simp only[Iq,Dr];rfl
theorem AY:type_of% @fa.eq_9:=by intros;exact Mac rfl rfl
theorem GU:type_of% @fa.eq_10:=by intros;exact Mac rfl rfl
theorem Z7{s:St}{A:Bool}{n:Nat}{x:Operand}:fa s (.load A n x) =
 match s.ev x with
 |.pt d=>
  match A,d with
  |true,.agg l=>if Nt n l=true then some (d,s.m)else none
  |true,_=>none
  |false,.agg _=>none
  |false,d=>if d.ok=true then some (d,s.m)else none
 |.ref id Ma idx sub=>
  match s.m[id]? with
  |some (.live _ ver' l)=>if ver'=Ma then(l[idx]?).bind λd=>if d.ok=true then(part A n sub d.cells).map λr=>(r,s.m)else none else none
  |_=>none
 |_=>none:=by simp only[Iq,Dr];rfl
theorem LY{s:St}{n:Nat}{x:Operand}{y:Operand}:fa s (.store n x y) =
 match s.ev x with
 |.ref id Ma idx sub=>
  match s.m[id]? with
  |some (.live S ver' l)=>
   if ver'=Ma/\(s.ev y).ok=true/\Nt n (s.ev y).cells=true then
    (l[idx]?).bind λd=>if d.ok=true/\0<n/\Gx sub n d.cells=true then some (.dead,s.m.set id (.live S ver' (l.set idx (d.qf sub (s.ev y).cells))))else none
   else none
  |_=>none
 |_=>none:=by simp only[Iq,Dr];rfl
theorem n8:type_of% @fa.eq_13:=by intros;exact Mac rfl rfl
theorem KY:type_of% @fa.eq_14:=by intros;exact Mac rfl rfl
theorem BY:type_of% @fa.eq_15:=by intros;exact Mac rfl rfl
theorem CY:type_of% @fa.eq_16:=by intros;exact Mac rfl rfl
theorem DY:type_of% @fa.eq_17:=by intros;exact Mac rfl rfl
theorem yY:type_of% @fa.eq_18:=by intros;exact Mac rfl rfl
theorem EY:type_of% @fa.eq_19:=by intros;exact Mac rfl rfl
theorem WQ:type_of% @fa.eq_20:=by intros;exact Mac rfl rfl
theorem q_len:type_of% @fa.eq_21:=by intros;exact Mac rfl rfl
theorem q8:type_of% @fa.eq_22:=by intros;exact Mac rfl rfl
theorem FU:type_of% @fa.eq_23:=by intros;exact Mac rfl rfl
theorem XQ:type_of% @fa.eq_24:=by intros;exact Mac rfl rfl
theorem HU:type_of% @fa.eq_25:=by intros;exact Mac rfl rfl
theorem Y7:type_of% @fa.eq_26:=by intros;exact Mac rfl rfl
theorem q_mm:type_of% @fa.eq_27:=by intros;exact Mac rfl rfl
theorem q_ceq:type_of% @fa.eq_28:=by intros;exact Mac rfl rfl
theorem r8:type_of% @fa.eq_29:=by intros;exact Mac rfl rfl
theorem p8{s:St}{x i:Operand}:fa s (.fu x i)=(match s.ev x,s.ev i with
 |.v (.string b),.v (.int _ k)=>(fu b k).map λn=>(D.v (.int .u8 n),s.m)
 |_,_=>none):=by
 simp only[fa];generalize s.ev x=a;generalize s.ev i=c;split
 .rename_i b k' k;by_cases h:0<=k/\k.toNat<b.size<;>simp[fu,h]
 .rename_i hx;split
  .exact(hx _ _ _ rfl rfl).elim
  .rfl
theorem IU:type_of% @fa.eq_31:=by intros;exact Mac rfl rfl
theorem HY:type_of% @fa.eq_32:=by intros;exact Mac rfl rfl
theorem IY{s:St}{K:Nat}{ok:Bool}{z:D}{x:Operand}{k:Operand}:fa s (.mlook K ok z x k) =
 match s.ev k with
 |.v kv=>
  if isKey K kv=true then
   match s.ev x with
   |.v (.map none)=>some (if ok then .tup [z,.v (.bool false)]else z,s.m)
   |.mp id=>
    match s.m[id]? with
    |some (.mp es)=>
     if(es.all λe=>isKey K e.1)=true then
      L1 ok z s.m (oz kv es)
     else none
    |_=>none
   |_=>none
  else none
 |_=>none:=by
 simp only[fa,L1];rfl
theorem l8:type_of% @fa.eq_34:=by intros;exact Mac rfl rfl
theorem a8:type_of% @fa.eq_35:=by intros;exact Mac rfl rfl
theorem MY:type_of% @fa.eq_36:=by intros;exact Mac rfl rfl
theorem GY:type_of% @fa.eq_37:=by intros;exact Mac rfl rfl
theorem YQ:type_of% @fa.eq_38:=by intros;exact Mac rfl rfl
theorem q_clr:type_of% @fa.eq_39:=by intros;exact Mac rfl rfl
theorem W7:type_of% @fa.eq_40:=by intros;exact Mac rfl rfl
theorem JY:type_of% @fa.eq_41:=by intros;exact Mac rfl rfl
theorem FY:type_of% @fa.eq_42:=by intros;exact Mac rfl rfl
def gQ(p:Prop) (R1:St->Prop) (s1:St) (R2:St->Prop) (s2:St):Prop:=gP p (R1 s1) (R2 s2)
theorem gQ_T{R1 R2:St->Prop}{s1 s2:St}:gQ True R1 s1 R2 s2=R1 s1:=oaa
theorem gQ_F{R1 R2:St->Prop}{s1 s2:St}:gQ False R1 s1 R2 s2=R2 s2:=naa
def gD(d:D) (b:Bool) (R1:St->Prop) (s1:St) (R2:St->Prop) (s2 s0:St):Prop:=
 match d with
 |.v (.bool c)=>gQ (c=b) R1 s1 R2 s2
 |.v _=>R2 s0
 |_=>False
theorem pX{c b:Bool}{R1 R2:St->Prop}{s1 s2 s0:St}:gD (.v (.bool c)) b R1 s1 R2 s2 s0=gQ (c=b) R1 s1 R2 s2:=Mac rfl rfl
theorem qX{b:Bool}{R1 R2:St->Prop}{s1 s2 s0:St}:gD (.v (.tuple #[])) b R1 s1 R2 s2 s0=R2 s0:=Mac rfl rfl
theorem oT{b:Bool}{R1 R2:St->Prop}{s1 s2 s0:St}:gD (.v undef) b R1 s1 R2 s2 s0=R2 s0:=Mac rfl rfl
section
variable {t:List D} {m:List Ent} {i:Nat} {b:Bool} {dst:Option Tmp} {l:List RI} {K:St->Prop} {ins:I} {k q:Nat} {args:List Operand}
theorem PR:Zg P (.op dst (some (i,b)) ins::l) K ⟨t,m⟩=gD (t.getD i .dead) b (Zg P (.op dst none ins::l) K) ⟨t.set i (.v (.bool b)),m⟩ (Zg P l K) (St.put ⟨t.set i (.v (.bool (!b))),m⟩ dst (.v undef)) (St.put ⟨t,m⟩ dst (.v undef)):=by
 rw[QR];simp only[gate,gD,gQ,Xw,lO]
 cases h:t.getD i .dead with
 |v x=>cases x<;>simp[gP]<;>cases b<;>simp
 |_=>rfl
theorem xM:Zg P (.call dst (some (i,b)) (.func k) args::l) K ⟨t,m⟩=gD (t.getD i .dead) b (Zg P (.call dst none (.func k) args::l) K) ⟨t.set i (.v (.bool b)),m⟩ (Zg P l K) (St.put ⟨t.set i (.v (.bool (!b))),m⟩ dst (.v undef)) (St.put ⟨t,m⟩ dst (.v undef)):=by
 rw[wK];simp only[gate,gD,gQ,Xw,DE]
 cases h:t.getD i .dead with
 |v x=>cases x<;>simp[gP]<;>cases b<;>simp
 |_=>rfl
theorem pT{t:List D}{i:Nat}{b c:Bool}(h:t.getD i .dead=.v (.bool c)) {Y N:List D->Prop}:gP (c=b) (Y t) (N t)=gP (c=b) (Y (t.set i (.v (.bool b)))) (N (t.set i (.v (.bool (!b))))):=by
 have hs:=xB h (by simp);by_cases hc:c=b
 .subst hc;rw[hs];simp[gP]
 .have:(!b)=c:=by cases b<;>cases c<;>simp_all
  rw[this,hs];simp[gP,hc]
theorem yM:Zg P (.call dst none (.tmp i) args::l) K ⟨t,m⟩=(match t.getD i .dead with|.fn k first caps=>af P k (first++args.map (St.ev ⟨t,m⟩)++caps) m (KO (Zg P l K) ⟨t,m⟩ dst)|_=>False):=by
 simp only[Zg,gate,St.ec,St.ev]
 first|done|(cases t.getD i .dead<;>rfl)
theorem tW:Ov P (q+1) (.op dst (some (i,b)) ins::l) K ⟨t,m⟩=gD (t.getD i .dead) b (Ov P (q+1) (.op dst none ins::l) K) ⟨t.set i (.v (.bool b)),m⟩ (Ov P q l K) (St.put ⟨t.set i (.v (.bool (!b))),m⟩ dst (.v undef)) (St.put ⟨t,m⟩ dst (.v undef)):=by
 rw[uW];simp only[gate,gD,gQ,DR]
 cases h:t.getD i .dead with
 |v x=>
  cases x with
  |bool c=>exact pT h (Y:=λt=>lp (fa ⟨t,m⟩ ins) (KO (Ov P q l K) ⟨t,m⟩ dst)) (N:=λt=>Ov P q l K (St.put ⟨t,m⟩ dst (.v undef)))
  |_=>cases b<;>simp[gP]
 |_=>rfl
theorem xP:Ov P (q+1) (.call dst (some (i,b)) (.func k) args::l) K ⟨t,m⟩=gD (t.getD i .dead) b (Ov P (q+1) (.call dst none (.func k) args::l) K) ⟨t.set i (.v (.bool b)),m⟩ (Ov P q l K) (St.put ⟨t.set i (.v (.bool (!b))),m⟩ dst (.v undef)) (St.put ⟨t,m⟩ dst (.v undef)):=by
 rw[wM];simp only[gate,gD,gQ,WH]
 cases h:t.getD i .dead with
 |v x=>
  cases x with
  |bool c=>exact pT h (Y:=λt=>gI P k (args.map (St.ev ⟨t,m⟩)) (Ov P q l K) ⟨t,m⟩ dst) (N:=λt=>Ov P q l K (St.put ⟨t,m⟩ dst (.v undef)))
  |_=>cases b<;>simp[gP]
 |_=>rfl
end
section
variable {t:List D} {m m':List Ent} {i:Nat} {x:Value} {f:FuncId} {g:Nat} {b c:Bool} {d d':D} {k n:Nat} {R:St->Prop} {o:Operand} {s:St}
theorem S8:St.ev ⟨t,m⟩ (.tmp i)=t.getD i .dead:=Mac rfl rfl
theorem IV:St.ev s (.const x)=.v x:=Mac rfl rfl
theorem EZ:St.ev s (.func f)=.fn f [] []:=Mac rfl rfl
theorem VQ:St.put ⟨t,m⟩ (some i) d=⟨t.set i d,m⟩:=Mac rfl rfl
theorem UQ:St.put s none d=s:=Mac rfl rfl
theorem yW:KO R ⟨t,m⟩ (some i) d m'=R ⟨t.set i d,m'⟩:=Mac rfl rfl
theorem xW:KO R ⟨t,m⟩ none d m'=R ⟨t,m'⟩:=Mac rfl rfl
theorem zQ:gate ⟨t,m⟩ (some (i,b))=(match t.getD i .dead with|.v (.bool c)=>some (some (c,b))|.v _=>some (some (!b,b))|_=>none):=Mac rfl rfl
theorem BU:Xw ⟨t,m⟩ (some (i,b)) c=(match t.getD i .dead with|.v (.bool _)=>⟨t.set i (.v (.bool c)),m⟩|_=>⟨t,m⟩):=Mac rfl rfl
theorem MP{l:List D}:D.cells (.agg l)=l:=Mac rfl rfl
theorem OW:D.cells (.v x)=[.v x]:=Mac rfl rfl
theorem pS{l:List D}:D.cells (.sl n l)=[.sl n l]:=Mac rfl rfl
theorem RB:D.cells (.own i k)=[.own i k]:=Mac rfl rfl
theorem GM{a b:Nat}:D.cells (.view i k a b)=[.view i k a b]:=Mac rfl rfl
theorem NP{a b:Nat}:D.cells (.ref i k a b)=[.ref i k a b]:=Mac rfl rfl
theorem oS:D.cells (.pt d)=[.pt d]:=Mac rfl rfl
theorem kS{a b:List D}:D.cells (.fn f a b)=[.fn f a b]:=Mac rfl rfl
theorem nS:D.cells (.mp i)=[.mp i]:=Mac rfl rfl
theorem M7{l:List D}:D.ok (.agg l)=true:=Mac rfl rfl
theorem ok_v:D.ok (.v x)=one x:=Mac rfl rfl
theorem ok_sl{l:List D}:D.ok (.sl n l)=true:=Mac rfl rfl
theorem N7:D.ok (.own i k)=true:=Mac rfl rfl
theorem rY{a b:Nat}:D.ok (.view i k a b)=true:=Mac rfl rfl
theorem O7{a b:Nat}:D.ok (.ref i k a b)=true:=Mac rfl rfl
theorem ok_pt:D.ok (.pt d)=true:=Mac rfl rfl
theorem ok_fn{a b:List D}:D.ok (.fn f a b)=true:=Mac rfl rfl
theorem ok_mp:D.ok (.mp i)=true:=Mac rfl rfl
theorem sY{j:IntKind}{z:Int}:one (.int j z)=true:=Mac rfl rfl
theorem tU:one (.bool b)=true:=Mac rfl rfl
theorem vY{z:ByteArray}:one (.string z)=true:=Mac rfl rfl
theorem P7{a b}:one (.slice none a b)=true:=Mac rfl rfl
theorem tY:one (.map none)=true:=Mac rfl rfl
theorem uY:one (.pointer none)=true:=Mac rfl rfl
theorem PX:Qc m (.v (.slice none 0 0))=some 0:=Mac rfl rfl
theorem l7{l:List D}:Qc m (.sl n l)=some l.length:=Mac rfl rfl
theorem QX:Qc m (.own i k)=(match m[i]? with|some (.live _ ver' l)=>if ver'=k then some l.length else none|_=>none):=Mac rfl rfl
theorem TT{a b:Nat}:Qc m (.view i k a b)=(match m[i]? with|some _=>some b|none=>none):=Mac rfl rfl
theorem QW:contents n m (.v (.slice none 0 0))=some []:=Mac rfl rfl
theorem C4{l:List D}:contents n m (.sl k l)=(if k=n then some l else none):=Mac rfl rfl
theorem RW:contents n m (.own i k)=(match m[i]? with|some (.live S' ver' l)=>if S'=n/\ver'=k then some l else none|_=>none):=Mac rfl rfl
theorem zS{a b:Nat}:contents n m (.view i k a b)=(match m[i]? with|some (.live S' ver' l)=>if S'=n/\ver'=k/\a+b<=l.length then some ((l.drop a).take b)else none|_=>none):=Mac rfl rfl
theorem U7{l:List D}{off:Nat}:part true n off l=(if Gx off n l=true then some (.agg ((l.drop off).take n))else none):=by simp only[Dr];rfl
theorem T7{l:List D}{off:Nat}:part false n off l=l[off]?:=Mac rfl rfl
theorem VZ{l r:List D}{a:Nat}:D.qf (.agg l) a r=.agg (Vo l a r):=Mac rfl rfl
theorem upd_v{r:List D}{a:Nat}:D.qf (.v x) a r=r.headD .dead:=Mac rfl rfl
theorem u9{l r:List D}{a:Nat}:D.qf (.sl n l) a r=r.headD .dead:=Mac rfl rfl
theorem WZ{r:List D}{a:Nat}:D.qf (.own i k) a r=r.headD .dead:=Mac rfl rfl
theorem r9{r:List D}{a:Nat}:D.qf (.pt d) a r=r.headD .dead:=Mac rfl rfl
theorem XZ{r:List D}{a b c:Nat}:D.qf (.ref i k b c) a r=r.headD .dead:=Mac rfl rfl
theorem head_cons{r:List D}{e:D}:(d::r).headD e=d:=Mac rfl rfl
theorem DV{l r:List D}:Vo (d::l) 0 (d'::r)=d'::Vo l 0 r:=by simp[Vo]
theorem EV{l r:List D}:Vo (d::l) (n+1) r=d::Vo l n r:=by simp[Vo,Nat.add_right_comm]
theorem XN{l:List D}:Vo l 0 []=l:=by simp[Vo]
theorem KP{l:List D}:Vr s [] l=some l:=Mac rfl rfl
theorem AM{l:List D}{off:Nat}{ps:List (Nat×Nat×Operand)}:Vr s ((off,n,o)::ps) l=(if(s.ev o).ok=true/\Nt n (s.ev o).cells=true/\Gx off n l=true then Vr s ps (Vo l off (s.ev o).cells)else none):=by simp only[Iq,Dr];rfl
theorem KW{l:List D}:vc s n [] l=some l:=Mac rfl rfl
theorem aS{l:List D}{ps:List (Nat×Operand)}:vc s n ((i,o)::ps) l=(if(s.ev o).ok=true/\Nt n (s.ev o).cells=true/\Gx i 1 l=true then vc s n ps (l.set i (s.ev o))else none):=by simp only[Iq,Dr];rfl
theorem YR:bound s n none=some n:=Mac rfl rfl
theorem ZR:bound s n (some o)=(match s.ev o with|.v (.int _ n)=>if 0<=n then some n.toNat else none|_=>none):=Mac rfl rfl
theorem rZ{lo hi:Nat}:Es n m (.v (.slice none 0 0)) lo hi=(if lo=0/\hi=0 then some (.v (.slice none 0 0))else none):=Mac rfl rfl
theorem N8{lo hi:Nat}{l:List D}:Es n m (.sl k l) lo hi=(if k=n/\lo<=hi/\hi<=l.length then some (.sl n ((l.drop lo).take (hi-lo)))else none):=Mac rfl rfl
theorem sZ{lo hi:Nat}:Es n m (.own i k) lo hi=(match m[i]? with|some (.live S' ver' l)=>if S'=n/\ver'=k/\lo<=hi/\hi<=l.length then some (.view i k lo (hi-lo))else none|_=>none):=Mac rfl rfl
theorem CV{lo hi a b:Nat}:Es n m (.view i k a b) lo hi=(match m[i]? with|some (.live S' ver' l)=>if S'=n/\ver'=k/\lo<=hi/\hi<=b/\a+b<=l.length then some (.view i k (a+lo) (hi-lo))else none|_=>none):=Mac rfl rfl
theorem VX:leaves []=some []:=Mac rfl rfl
theorem XT{l:List D}:leaves (.v x::l)=(leaves l).map (x::·):=Mac rfl rfl
theorem fX{j k:IntKind}{a b:Int}:Xr 0 (.v (.int j a)) (.v (.int k b))=(if j=k then some (a==b)else none):=Mac rfl rfl
theorem iT{a b:Bool}:Xr 1 (.v (.bool a)) (.v (.bool b))=some (a==b):=Mac rfl rfl
theorem Bz{a b:ByteArray}:(a.toList==b.toList)=decide (a=b):=by
 by_cases h:a=b
 .subst h;simp
 .rw[decide_eq_false h,beq_eq_false_iff_ne];exact λhe=>h (by cases a;cases b;simp only[ByteArray.toList_eq]at he;simpa using he)
theorem gX{a b:ByteArray}:Xr 2 (.v (.string a)) (.v (.string b))=some (decide (a=b)):=by
 rw[←Bz];rfl
theorem T8{a b:ByteArray}:sg (binOp .eql 0 (.string a) (.string b))=some (.bool (decide (a=b))):=by
 rw[←Bz];rfl
theorem U8{a b:ByteArray}:sg (binOp .neq 0 (.string a) (.string b))=some (.bool (!decide (a=b))):=by
 rw[←Bz];rfl
theorem hX:ld [] [] []=some true:=Mac rfl rfl
theorem jT{ks:List Nat}{xs ys:List D}{e:D}:ld (k::ks) (d::xs) (e::ys)=(match Xr k d e,ld ks xs ys with|some a,some b=>some (a&&b)|_,_=>none):=Mac rfl rfl
section
variable {j:IntKind} {a b:Int}
theorem R3:oh .add j a j b=some (.int j (ca j (a+b))):=by simp[oh]
theorem q4:oh .sub j a j b=some (.int j (ca j (a-b))):=by simp[oh]
theorem X3:oh .mul j a j b=some (.int j (ca j (a*b))):=by simp[oh]
theorem S3:oh .eql j a j b=some (.bool (a==b)):=by simp[oh]
theorem Y3:oh .neq j a j b=some (.bool (a !=b)):=by simp[oh]
theorem W3:oh .lss j a j b=some (.bool (decide (a<b))):=by simp[oh]
theorem V3:oh .leq j a j b=some (.bool (decide (a<=b))):=by simp[oh]
theorem U3:oh .gtr j a j b=some (.bool (decide (b<a))):=by simp[oh]
theorem T3:oh .geq j a j b=some (.bool (decide (b<=a))):=by simp[oh]
theorem Z3:oh .quo j a j b=if b=0 then none else some (.int j (ca j (a.tdiv b))):=by
 by_cases h:b=0<;>simp[oh,h]
theorem n4:oh .rem j a j b=if b=0 then none else some (.int j (a.tmod b)):=by
 by_cases h:b=0<;>simp[oh,h]
end
theorem K9{b:Bool}:(b !=false)=b:=by cases b<;>rfl
theorem L9{b:Bool}:(b !=true) = !b:=by cases b<;>rfl
theorem not_F{b:Bool}:((!b)=false)=(b=true):=by cases b<;>simp
theorem not_T{b:Bool}:((!b)=true)=(b=false):=by cases b<;>simp
theorem Zt:Cb s []=some []:=Mac rfl rfl
theorem au{l:List RV}:Cb ⟨t,m⟩ (.tmp i::l)=(match Cb ⟨t,m⟩ l with|some ds=>some (t.getD i .dead::ds)|none=>none):=by
 simp only[Cb,tu];cases Cb ⟨t,m⟩ l<;>rfl
theorem Nq{l:List RV}:Cb ⟨t,m⟩ (.cell b n i::l)=(match fa ⟨t,m⟩ (.load b n (.tmp i)),Cb ⟨t,m⟩ l with|some (d,_),some ds=>some (d::ds)|_,_=>none):=by
 simp only[Cb,tu];cases fa ⟨t,m⟩ (.load b n (.tmp i))<;>cases Cb ⟨t,m⟩ l<;>rfl
end
def zx:=(And.intro (And.intro (And.intro (And.intro (And.intro (And.intro (And.intro (And.intro (And.intro @D0 @W2) (And.intro @Y2 @X2)) (And.intro (And.intro @XH @wW) (And.intro @V2 @q_mv))) (And.intro (And.intro (And.intro @o8 @q_bin) (And.intro @q_beq @q_un)) (And.intro (And.intro @X7 @zY) (And.intro @q_box @AY)))) (And.intro (And.intro (And.intro (And.intro @GU @Z7) (And.intro @LY @n8)) (And.intro (And.intro @KY @BY) (And.intro @CY @DY))) (And.intro (And.intro (And.intro @yY @EY) (And.intro @WQ @q_len)) (And.intro (And.intro @q8 @FU) (And.intro @XQ @HU))))) (And.intro (And.intro (And.intro (And.intro (And.intro @Y7 @q_mm) (And.intro @q_ceq @r8)) (And.intro (And.intro @p8 @IU) (And.intro @HY @IY))) (And.intro (And.intro (And.intro @l8 @a8) (And.intro @MY @GY)) (And.intro (And.intro @YQ @q_clr) (And.intro @W7 @JY)))) (And.intro (And.intro (And.intro (And.intro @FY @gQ_T) (And.intro @gQ_F @pX)) (And.intro (And.intro @qX @oT) (And.intro @PR @xM))) (And.intro (And.intro (And.intro @yM @tW) (And.intro @xP @S8)) (And.intro (And.intro @IV @EZ) (And.intro @VQ @UQ)))))) (And.intro (And.intro (And.intro (And.intro (And.intro (And.intro @yW @xW) (And.intro @zQ @BU)) (And.intro (And.intro @MP @OW) (And.intro @pS @RB))) (And.intro (And.intro (And.intro @GM @NP) (And.intro @oS @kS)) (And.intro (And.intro @nS @M7) (And.intro @ok_v @ok_sl)))) (And.intro (And.intro (And.intro (And.intro @N7 @rY) (And.intro @O7 @ok_pt)) (And.intro (And.intro @ok_fn @ok_mp) (And.intro @sY @tU))) (And.intro (And.intro (And.intro @vY @P7) (And.intro @tY @uY)) (And.intro (And.intro @PX @l7) (And.intro @QX @TT))))) (And.intro (And.intro (And.intro (And.intro (And.intro @QW @C4) (And.intro @RW @zS)) (And.intro (And.intro @U7 @T7) (And.intro @VZ @upd_v))) (And.intro (And.intro (And.intro @u9 @WZ) (And.intro @r9 @XZ)) (And.intro (And.intro @head_cons @DV) (And.intro @EV @XN)))) (And.intro (And.intro (And.intro (And.intro @KP @AM) (And.intro @KW @aS)) (And.intro (And.intro @YR @ZR) (And.intro @rZ @N8))) (And.intro (And.intro (And.intro @sZ @CV) (And.intro @VX @XT)) (And.intro (And.intro @fX @iT) (And.intro @gX @T8))))))) (And.intro (And.intro (And.intro (And.intro (And.intro (And.intro (And.intro @U8 @hX) (And.intro @jT @R3)) (And.intro (And.intro @q4 @X3) (And.intro @S3 @Y3))) (And.intro (And.intro (And.intro @W3 @V3) (And.intro @U3 @T3)) (And.intro (And.intro @Z3 @n4) (And.intro @K9 @L9)))) (And.intro (And.intro (And.intro (And.intro @not_F @not_T) (And.intro @Zt @au)) (And.intro (And.intro @Nq @Mad.{0}) (And.intro @aae.{0} @eY))) (And.intro (And.intro (And.intro @YX @aY) (And.intro @false_and @and_false)) (And.intro (And.intro @true_or @or_true) (And.intro @or_self @false_or))))) (And.intro (And.intro (And.intro (And.intro (And.intro @or_false @jS) (And.intro @eq_self.{1} @Sp)) (And.intro (And.intro @oaa @naa) (And.intro @bne_self_eq_false.{0} @bne_iff_ne.{0}))) (And.intro (And.intro (And.intro @bne_eq_false_iff_eq.{0} @Bool.false_eq_true) (And.intro @Bool.true_eq_false @false_implies)) (And.intro (And.intro @true_implies @implies_true.{1}) (And.intro @not_true_eq_false @not_false_eq_true)))) (And.intro (And.intro (And.intro (And.intro @beq_self_eq_true.{0} @OR) (And.intro @lO @DE)) (And.intro (And.intro @ER @DR) (And.intro @WH @zP))) (And.intro (And.intro (And.intro @zW @Z2) (And.intro @yP @vW)) (And.intro (And.intro @U2 @UR) (And.intro @XX @Option.bind_some.{0,0})))))) (And.intro (And.intro (And.intro (And.intro (And.intro (And.intro @Nat.mul_one @Int.toNat_natCast) (And.intro @Int.natCast_nonneg @bW)) (And.intro (And.intro @cW @aW) (And.intro @Nat.lt_add_one @Jag))) (And.intro (And.intro (And.intro @true_and @and_true) (And.intro @and_self @Bool.or_false)) (And.intro (And.intro @Bool.false_or @Bool.or_true) (And.intro @Bool.true_or @Bool.or_self)))) (And.intro (And.intro (And.intro (And.intro @CP @Cad.{0}) (And.intro @Pad.{0} @mad.{0})) (And.intro (And.intro @Yad.{0} @rad.{0}) (And.intro @cae.{0} @List.set_cons_succ.{0}))) (And.intro (And.intro (And.intro @List.set_cons_zero.{0} @Bad.{0,0}) (And.intro @Vae.{0,0} @qae.{0,0})) (And.intro (And.intro @Option.map_none.{0,0} @Q3) (And.intro @decide_true @cond_true.{1}))))) (And.intro (And.intro (And.intro (And.intro (And.intro @cond_false.{1} @if_true.{1}) (And.intro @if_false.{1} @decide_eq_true_eq)) (And.intro (And.intro @decide_eq_false_iff_not @Lad) (And.intro @Xac @Nat.succ_ne_self))) (And.intro (And.intro (And.intro @Bool.not_true @Bool.not_false) (And.intro @w0 @decide_false)) (And.intro (And.intro @beq_iff_eq.{0} @beq_eq_false_iff_ne.{0}) (And.intro @ne_eq.{1} @oae)))) (And.intro (And.intro (And.intro (And.intro @Nat.add_zero @bae.{0,0}) (And.intro @cad @ite_true.{1})) (And.intro (And.intro @ite_false.{1} @vad.{0}) (And.intro @List.drop_succ_cons.{0} @oaf.{0}))) (And.intro (And.intro (And.intro @List.take_succ_cons.{0} @List.take_zero.{0}) (And.intro @List.getElem?_map.{0,0} @List.length_append.{0})) (And.intro (And.intro @Sad @gaf) (And.intro @kae.{0} @qaf.{0})))))))) (And.intro (And.intro (And.intro (And.intro @qae.{0,0} @n7) (And.intro @RX @h2_z)) (And.intro (And.intro @h2_n @h2_o) (And.intro @Sac @vo))) (And.intro (And.intro (And.intro @tn @Ul) (And.intro @OO @J3)) (And.intro @KX @T4))))
theorem vZ{α:Type}{e:α->D} [Fr e] {f:D->D->Prop}{l:List α}:yw f (l.map e) (l.map e)=True:=pf (Fr.l l)
theorem nz_S{x:Nat}:(0=x+1)=False:=by simp
theorem nS_z{x:Nat}:(x+1=0)=False:=by simp
theorem nS_S{x y:Nat}:(x+1=y+1)=(x=y):=by simp
def zq:=(And.intro (And.intro (And.intro (And.intro (And.intro (And.intro @nz_S @nS_z) (And.intro @nS_S @vZ)) (And.intro (And.intro @uZ @FV) (And.intro @sqS_L @wZ))) (And.intro (And.intro (And.intro @xZ @sq_v) (And.intro @O8 @R8)) (And.intro (And.intro @BZ @sq_sl) (And.intro @AZ @HV)))) (And.intro (And.intro (And.intro (And.intro @P8 @GV) (And.intro @Q8 @CZ)) (And.intro (And.intro @sq_pt @zZ) (And.intro @sq_fn @Z4))) (And.intro (And.intro (And.intro @iX @Y4) (And.intro @vU @TQ)) (And.intro (And.intro @vo @tn) (And.intro @sq_mp @iaa))))) (And.intro (And.intro (And.intro (And.intro (And.intro @oX @u5) (And.intro @U4 @kae.{0})) (And.intro (And.intro @qaf.{0} @and_self) (And.intro @and_true @true_and))) (And.intro (And.intro (And.intro @or_true @true_or) (And.intro @eq_self.{1} @Mad.{0})) (And.intro (And.intro @aae.{0} @Aad.{0}) (And.intro @lad.{0,0} @Vae.{0,0})))) (And.intro (And.intro (And.intro (And.intro @Bad.{0,0} @List.map_append.{0,0}) (And.intro @Yad.{0} @exists_eq'.{1})) (And.intro (And.intro @Xac @Lad) (And.intro @bne_iff_ne.{0} @ne_eq.{1}))) (And.intro @not_false_eq_true @Sac))))
def zs:=(And.intro (And.intro (And.intro @mad.{0} @Yad.{0}) (And.intro @rad.{0} @cae.{0})) (And.intro (And.intro @oae @vo) @tn))
variable {P:Program} {N:Nat}
class StbC (N:Nat) (K:Exit->St->Prop):Prop where
 h:G0 N K
instance {b:C}{K:Exit->St->Prop}:StbC N (KS P N b K):=⟨stb_S⟩
instance {id:Nat}{K:Exit->St->Prop} [h:StbC N K]:StbC N (KB id K):=⟨stb_B h.h⟩
instance {σ β ρ:Type}{id:Nat}{K:Exit->St->Prop}{S:σ->St}{B:β->St}{z:Ex σ β ρ}:StbC N (KL N id K S B z):=⟨stb_L⟩
instance {X R:Type}{K:Exit->St->Prop}{S:X->St}{z:X⊕R}:StbC N (KJ N K S z):=⟨stb_J⟩
instance {rs:List RV}{o:D}:StbC 0 (oH rs o):=⟨stb_F⟩
theorem T.UT{σ β ρ:Type}{id:Nat}{K:Exit->St->Prop} [hst:StbC N K] {x:C}{s:St}(S:σ->St) (B:β->St) (step:σ->Option (Ex σ β ρ)) (x0:σ) {y:β⊕ρ}(hy:Tm.da step x0=some y) (hs:Tells N s (S x0))
 (round:∀a z,step a=some z->(∀v,z=.ret v->y=.inr v)->Tm.T P N x (KL N id K S B z) (S a))
 (rest:∀b,y=.inl b->K .normal (B b)):Tm.T P N (.block id (.loop x)) K s:=T.da S B step x0 hy hs hst.h round rest
theorem AA:ja []=true:=rfl
theorem iD{α:Type}{e:α->D} [Fr e] {x:α}{l:List D}(h:ja l=true):ja (e x::l)=true:=by
 simp_all[ja,Fr.h]
theorem zO{k:FuncId}{q l:List D}(hc:ja q=true) (h:ja l=true):ja (.fn k [] q::l)=true:=by
 grind[ja,la]
theorem gS{k:Nat}{d d':D}{q:List D}{o:D}{m:List Ent}{f:D->List Ent->Prop}(h:Den P k ([d']++q) o) (hq:ja q=true) (hf:f o m) (hs:Sq [] [] 9 d d'):af P k (d::q) m f:=
 Ub (m1:=m) (d1:=o) ⟨(h m).1,λG w vs hv hi=>(h m).2 G w vs ((QG (pw 9 d d' q q hs (Sbs.free hq))).1 vs hv) hi⟩ hf
theorem P2{rs:List RV}{o:D}{s:St}(h:kL (Cb s rs) s.m o):oH rs o .normal s:=by
 obtain⟨ds,h1,h2⟩:=h;exact⟨s,.refl s,ds,h1,h2⟩
def Ws{α:Type}(l:List α) (hi:Int):Option (List α):=if 0<=hi/\hi.toNat<=l.length then some (l.take hi.toNat)else none
def dE{α:Type}(l:List α) (lo:Int):Option (List α):=if 0<=lo/\lo.toNat<=l.length then some (l.drop lo.toNat)else none
section
variable {α:Type} {e:α->D} {l r x:List α} {i:Int} {y:α} {b:Nat}
theorem Iaa(h:idx l i=some y):0<=i/\l[i.toNat]?=some y:=OF h
theorem Jaa(h:idx l i=some y):0<=i/\l[i.toNat]?=some y/\i.toNat<l.length:=by
 obtain⟨h1,h2⟩:=OF h
 grind
theorem cI(h:app b l r=some x):(l.length+r.length)*b<=2 ^ 47/\l.map e++r.map e=x.map e:=by
 obtain⟨h1,rfl⟩:=WR h
 simp_all
theorem DU(h:put l i y=some x):i.toNat<l.length/\(l.map e).set i.toNat (e y)=x.map e:=by
 obtain⟨h0,h1,rfl⟩:=EU h
 simp_all
theorem HL{n c:Int}(h:Ww b y n c=some x):0<=n/\n<=c/\c<=2 ^ 62/\c.toNat*b<=2 ^ 48/\Nac n.toNat (e y)=x.map e:=by
 obtain⟨h0,h1,h2,h3,rfl⟩:=dU h
 simp_all
theorem dO(h:Ws l i=some x):0<=i/\i.toNat<=l.length/\((l.map e).drop 0).take (i.toNat-0)=x.map e:=by
 unfold Ws at h;split at h
 .rename_i hc;obtain rfl:=nad h
  simp_all
 .cases h
theorem RZ(h:Ws l i=some x):0<=i/\i.toNat<=l.length/\(l.map e).take i.toNat=x.map e:=by
 obtain⟨h1,h2,h3⟩:=dO (e:=e) h
 simp_all
theorem LV(h:dE l i=some x):0<=i/\i.toNat<=l.length/\((l.map e).drop i.toNat).take (l.length-i.toNat)=x.map e:=by
 unfold dE at h;split at h
 .rename_i hc;obtain rfl:=nad h
  grind[List.map_drop,fag]
 .cases h
theorem AO(h:dE l i=some x):0<=i/\i.toNat<=l.length/\((l.map e).take l.length).drop i.toNat=x.map e:=by
 obtain⟨h1,h2,h3⟩:=LV (e:=e) h
 grind[fag]
theorem V8(h:dE l i=some x):0<=i/\i.toNat<=l.length/\i.toNat+x.length<=l.length/\l.length-i.toNat=x.length/\((l.map e).drop i.toNat).take x.length=x.map e:=by
 obtain⟨h1,h2,h3⟩:=LV (e:=e) h;have h4:l.length-i.toNat=x.length:=by
  have:=congrArg List.length h3
  grind
 grind
theorem quo_f{k:IntKind}{a c d:Int}(h:quo k a c=some d):¬c=0/\ca k (a.tdiv c)=d:=by
 grind[quo]
theorem W1{k:IntKind}{a c d:Int}(h:rem k a c=some d):¬c=0/\a.tmod c=d:=by
 grind[rem]
end
theorem XB:∀n:Nat,Tm.ds n []=Nac n .dead
 |0=>rfl
 |n+1=>by rw[tn,XB n];rfl
theorem Den.at{k:Nat}{F:Fun}{l:List D}{o:D}(n:Nat) (hF:rv P k=some F) (hname:((P.funcs[k]?).map λfn=>fn.name == "runtime.NumGoroutine")=some false) (hf:ja l=true)
 (hn:F.ntmps=l.length+n) (h:T P 0 F.code (oH F.results o) ⟨l++Tm.ds n [],[]⟩):Den P k l o:=by
 grind[Den.of,XB]
section
variable {P:Program} {N:Nat} {ops:Array Oper} {Q:Exit->Act->World->Prop} {K:St->Prop} {rl:List RI} {q:Nat} {ps:List (List Nat)}
def SQ(R:List (List Nat)->St->Prop) (fp:List (List Nat)) (p:List Nat) (dst:Option Tmp) (i:I) (s:St):Prop:=
 fA fp (km s (.op dst none i)) p=true/\xf s i=true/\lp (fa s i) (KO (R (fp++[km s (.op dst none i)])) s dst)
def M8(R:List (List Nat)->St->Prop) (fp:List (List Nat)) (p:List Nat) (dst:Option Tmp) (i:I) (s:St):Prop:=
 fA fp (km s (.op dst none i)) p=true/\R (fp++[km s (.op dst none i)]) (s.put dst (.v undef))
def Aw(P:Program) (k:FuncId) (ds:List D) (ids:List Nat) (R:St->Prop) (s:St) (dst:Option Tmp):Prop:=
 ∃d,((∀id∈ids,id<s.m.length)/\∀m,(∀id∈ids,m[id]?=s.m[id]?)->CallT P k ds m λd' m'=>d'=d/\m'=m)/\R (s.put dst d)
def rS(P:Program) (R:List (List Nat)->St->Prop) (fp:List (List Nat)) (p:List Nat) (k:FuncId) (dst:Option Tmp) (args:List Operand) (s:St):Prop:=fA fp (Hb s args) p=true/\Aw P k (args.map s.ev) (Hb s args) (R (fp++[Hb s args])) s dst
def S9(R:List (List Nat)->St->Prop) (fp:List (List Nat)) (p:List Nat) (dst:Option Tmp) (args:List Operand) (s:St):Prop:=fA fp (Hb s args) p=true/\R (fp++[Hb s args]) (s.put dst (.v undef))
def Uu(P:Program):List (List Nat)->Nat->List RI->(St->Prop)->List (List Nat)->St->Prop
 |_,0,l,K,_,s=>Zg P l K s
 |_,_+1,[],_,_,_=>False
 |ps,q+1,.op dst none i::l,K,fp,s=>SQ (Uu P ps.tail q l K) fp (ps.headD []) dst i s
 |ps,q+1,.op dst (some (t,b)) i::l,K,fp,s=>
  gD (s.t.getD t .dead) b (SQ (Uu P ps.tail q l K) fp (ps.headD []) dst i) ⟨s.t.set t (.v (.bool b)),s.m⟩ (M8 (Uu P ps.tail q l K) fp (ps.headD []) dst i) ⟨s.t.set t (.v (.bool (!b))),s.m⟩ s
 |ps,q+1,.call dst none (.func k) args::l,K,fp,s=>rS P (Uu P ps.tail q l K) fp (ps.headD []) k dst args s
 |ps,q+1,.call dst (some (t,b)) (.func k) args::l,K,fp,s=>
  gD (s.t.getD t .dead) b (rS P (Uu P ps.tail q l K) fp (ps.headD []) k dst args) ⟨s.t.set t (.v (.bool b)),s.m⟩ (S9 (Uu P ps.tail q l K) fp (ps.headD []) dst args) ⟨s.t.set t (.v (.bool (!b))),s.m⟩ s
 |_,_+1,.call ..::_,_,_,_=>False
theorem BF{d:D}{b:Bool}{t:List D}{i:Nat}(hd:t.getD i .dead=d) {m:List Ent}{R1 R2:St->Prop}(h:gD d b R1 ⟨t.set i (.v (.bool b)),m⟩ R2 ⟨t.set i (.v (.bool (!b))),m⟩ ⟨t,m⟩) :
 match gate ⟨t,m⟩ (some (i,b))with
 |none=>False
 |some none=>True
 |some (some (c,b))=>(c=b->R1 ⟨t,m⟩)/\(c≠b->R2 ⟨t,m⟩):=by
 simp only[gate,hd];unfold gD at h
 cases d with
 |v x=>
  cases x with
  |bool c=>
   simp only[gQ]at h⊢;have hs:=xB hd (by simp);refine⟨λhc=>?_,λhc=>?_⟩
   .subst hc;have:=h.1 rfl
    simp_all
   .have:=h.2 hc;rwa [show(!b)=c by cases b<;>cases c<;>simp_all,hs]at this
  |_=>cases b<;>simpa using h
 |_=>exact h
theorem aD:∀{q:Nat}{l:List RI}{ps:List (List Nat)}{fp:List (List Nat)}{s:St},Uu P ps q l K fp s->Ow P ps fp q l K s
 |0,l,ps,fp,s,h=>by simp only[Uu]at h;simp only[Ow];exact Cs h
 |q+1,[],ps,fp,s,h=>by simp only[Uu]at h
 |q+1,.op dst none i::l,ps,fp,s,h=>by
  simp only[Uu,SQ]at h;obtain⟨h1,h0,h2⟩:=h;simp only[Ow,gate];obtain⟨d,m',h3,h4⟩:=(Cl _ _).1 h2;exact⟨h1,d,m',h0,h3,aD h4⟩
 |q+1,.op dst (some (t,b)) i::l,ps,fp,⟨st,sm⟩,h=>by
  simp only[Uu]at h;have h:=BF rfl h;have hrid:∀s,km s (.op dst (some (t,b)) i)=km s (.op dst none i):=λ_=>rfl;simp only[Ow];rw[hrid];split at h
  .simp_all
  .grind[gate]
  .rename_i c b' hg;simp only[hg];by_cases hc:c=b'
   .obtain⟨h1,h0,h2⟩:=h.1 hc;obtain⟨d,m',h3,h4⟩:=(Cl _ _).1 h2;exact⟨h1,λ_=>⟨d,m',h0,h3,aD h4⟩,λhn=>(hn hc).elim⟩
   .obtain⟨h1,h2⟩:=h.2 hc;exact⟨h1,λhn=>(hc hn).elim,λ_=>aD h2⟩
 |q+1,.call dst none (.func k) args::l,ps,fp,s,h=>by
  simp only[Uu,rS,Aw]at h;obtain⟨h0,d,h1,h2⟩:=h;simp only[Ow,gate];exact⟨h0,d,by simp_all,aD h2⟩
 |q+1,.call dst (some (t,b)) (.func k) args::l,ps,fp,⟨st,sm⟩,h=>by
  simp only[Uu]at h;have h:=BF rfl h;simp only[Ow];have hev:St.cv ⟨st,sm⟩ (.func k)=.fn k [] []:=rfl;simp only[hev];split at h
  .simp_all
  .grind[gate]
  .rename_i c b' hg;simp only[hg];by_cases hc:c=b'
   .obtain⟨h0,d,h1,h2⟩:=h.1 hc;exact⟨h0,λ_=>⟨d,by simp_all,aD h2⟩,λhn=>(hn hc).elim⟩
   .obtain⟨h0,h2⟩:=h.2 hc;exact⟨h0,λhn=>(hc hn).elim,λ_=>aD h2⟩
 |q+1,.call dst none (.tmp _) args::l,ps,fp,s,h=>by simp only[Uu]at h
 |q+1,.call dst none (.const _) args::l,ps,fp,s,h=>by simp only[Uu]at h
 |q+1,.call dst none (.global _) args::l,ps,fp,s,h=>by simp only[Uu]at h
 |q+1,.call dst (some _) (.tmp _) args::l,ps,fp,s,h=>by simp only[Uu]at h
 |q+1,.call dst (some _) (.const _) args::l,ps,fp,s,h=>by simp only[Uu]at h
 |q+1,.call dst (some _) (.global _) args::l,ps,fp,s,h=>by simp only[Uu]at h
 |q+1,.call dst none (.meth _ _) args::l,ps,fp,s,h=>by simp only[Uu]at h
 |q+1,.call dst (some _) (.meth _ _) args::l,ps,fp,s,h=>by simp only[Uu]at h
theorem T.dy(hm:P.follows .mixedOrders=true) {l:List RI}{K:Exit->St->Prop}{s:St}(h:Uu P [] q l (K .normal) [] s):T P N (.draw q l) K s:=
 T.daa hm (Au (aD h))
theorem T.ay(hm:P.follows .mixedOrders=true) {cuts:List Nat}{bs:List (List Nat)}{l:List RI}{K:Exit->St->Prop}{s:St}(ps:List (List Nat)) (hok:Bu bs l q ps []=true) (h:Uu P ps q l (K .normal) [] s):T P N (.any cuts q bs l) K s:=
 T.any2 hm ps hok (aD h)
end
section
variable {P:Program}
theorem YI{k:Nat}{ds ds':List D}{o:D}{R:St->Prop}{s:St}{dst:Option Tmp}(h:Den P k ds' o) (hf:R (s.put dst o)) (hs:QC (Sq [] [] 9) ds ds'):Aw P k ds [] R s dst:=
 ⟨o,⟨λ_ h=>(by cases h),λm _=>⟨(h m).1,λG w vs hv hi=>(h m).2 G w vs ((QG (Gy (pw 9) hs)).1 vs hv) hi⟩⟩,hf⟩
def Lq(m:List Ent) (d e:D):Prop:=
 match d,e with
 |.own j v,.sl S b=>match m[j]? with|some (.live S' v' a)=>S'=S/\v'=v/\a=b/\ja a=true|_=>False
 |.view j v lo n,.sl S b=>match m[j]? with|some (.live S' v' a)=>S'=S/\v'=v/\lo+n<=a.length/\(a.drop lo).take n=b/\ja b=true|_=>False
 |.ref j v x s,.pt e=>match m[j]? with|some (.live _ v' a)=>v'=v/\s=0/\a[x]?=some e/\la e=true|_=>False
 |d,e=>Sq [] [] 9 d e
theorem L8{l r:List D}(h:Sbs [] [] l r) (m:List Ent):Sbs [] m l r:=by
 induction h with
 |nil=>exact .nil
 |same hf h ih=>exact .same hf ih
 |dead h ih=>exact .dead ih
 |nils h ih=>exact .nils ih
 |agg ha h iha ih=>exact .agg iha ih
 |tup ha h iha ih=>exact .tup iha ih
 |sl ha h iha ih=>exact .sl iha ih
 |pt ha h iha ih=>exact .pt iha ih
 |fn ha hc h iha ihc ih=>exact .fn iha ihc ih
 |ifc ha h iha ih=>exact .ifc iha ih
 |RC i hi=>simp at hi
 |own hi=>simp at hi
 |ref hi=>simp at hi
 |view hi=>simp at hi
 |mp hi=>simp at hi
 |Ye hm=>simp at hm
 |fview hm=>simp at hm
 |fref hm=>simp at hm
theorem v7{m m':List Ent}{ids:List Nat}(hm:∀id∈ids,m'[id]?=m[id]?) {d e:D}{l r:List D}(h:Lq m d e) (hid:(match Ud d with|some j=>ids.contains j|none=>true)=true) (hs:Sbs [] m' l r):Sbs [] m' (d::l) (e::r):=by
 unfold Lq at h;split at h
 .rename_i j v S b;simp only[Ud,Zac]at hid;split at h
  .rename_i S' v' a hj;obtain⟨rfl,rfl,rfl,hf⟩:=h;exact .Ye (by simp_all) rfl (Sbs.free hf) hs
  simp_all
 .rename_i j v lo n S b;simp only[Ud,Zac]at hid;split at h
  .rename_i S' v' a hj;obtain⟨rfl,rfl,hn,rfl,hf⟩:=h;exact .fview (by simp_all) rfl hn (Sbs.free hf) hs
  simp_all
 .rename_i j v x s e;simp only[Ud,Zac]at hid;split at h
  .rename_i S' v' a hj;obtain⟨rfl,rfl,hx,hf⟩:=h;exact .fref (by rw[hm j hid];omega) rfl hx (.same hf .nil) hs
  simp_all
 .have h1:=L8 (pw 9 d e [] [] h .nil) m';exact Sbs.app (a:=[d]) (b:=[e]) h1 hs
def FD(ids:List Nat) (ds:List D):Bool:=ds.all λd=>match Ud d with|some j=>ids.contains j|none=>true
theorem rE{m m':List Ent}{ids:List Nat}(hm:∀id∈ids,m'[id]?=m[id]?):∀{a b:List D},QC (Lq m) a b->FD ids a=true->Sbs [] m' a b
 |[],[],_,_=>.nil
 |d::l,e::r,h,ht=>by
  simp only[FD,sae,Sac]at ht;exact v7 hm h.1 ht.1 (rE hm h.2 ht.2)
 |[],_::_,h,_=>h.elim
 |_::_,[],h,_=>h.elim
theorem JE{k:Nat}{ids:List Nat}{ds ds':List D}{o:D}{R:St->Prop}{s:St}{dst:Option Tmp}(h:Den P k ds' o) (hf:R (s.put dst o)) (hfl:flat o=true) (hi:(ids.all λi=>decide (i<s.m.length))=true) (ht:FD ids ds=true) (hs:QC (Lq s.m) ds ds'):Aw P k ds ids R s dst:=by
 refine⟨o,⟨λid hid=>?_,λm hm=>?_⟩,hf⟩
 .simp_all
 .exact Cz h (rE hm hs ht) hfl ⟨rfl,rfl⟩
variable {m:List Ent} {S x y lo n s:Nat} {b:List D} {e:D}
theorem r7:Lq m (.own x y) (.sl S b)=(match m[x]? with|some (.live S' v' a)=>S'=S/\v'=y/\a=b/\ja a=true|_=>False):=Mac rfl rfl
theorem TX:Lq m (.view x y lo n) (.sl S b)=(match m[x]? with|some (.live S' v' a)=>S'=S/\v'=y/\lo+n<=a.length/\(a.drop lo).take n=b/\ja b=true|_=>False):=Mac rfl rfl
theorem u7{z:Nat}:Lq m (.ref x y z s) (.pt e)=(match m[x]? with|some (.live _ v' a)=>v'=y/\s=0/\a[z]?=some e/\la e=true|_=>False):=Mac rfl rfl
theorem lq_v{z:Value}:Lq m (.v z) e=Sq [] [] 9 (.v z) e:=Mac rfl rfl
theorem o7{z:List D}:Lq m (.agg z) e=Sq [] [] 9 (.agg z) e:=Mac rfl rfl
theorem lq_sl{z:List D}:Lq m (.sl S z) e=Sq [] [] 9 (.sl S z) e:=Mac rfl rfl
theorem lq_pt{z:D}:Lq m (.pt z) e=Sq [] [] 9 (.pt z) e:=Mac rfl rfl
theorem lq_fr{α:Type}{f:α->D} [Fr f] {l:List α}:ja (l.map f)=true:=Fr.l l
theorem q7{α:Type}{f:α->D}{l:List α}:(l.map f).length=l.length:=bae f
end
variable {P:Program}
theorem rd_mv{s:St}{d:Option Tmp}{g:Option (Tmp×Bool)}{u0:Operand}:km s (.op d g (.mv u0))=[]:=Mac rfl rfl
theorem sb_mv{s:St}{u0:Operand}:xf s (.mv u0)=true:=Mac rfl rfl
theorem VY{s:St}{d:Option Tmp}{g:Option (Tmp×Bool)}{u0:Operand}{u1:Operand}{u2:Operand}:km s (.op d g (.pick u0 u1 u2))=[]:=Mac rfl rfl
theorem mZ{s:St}{u0:Operand}{u1:Operand}{u2:Operand}:xf s (.pick u0 u1 u2)=true:=Mac rfl rfl
theorem w8{s:St}{d:Option Tmp}{g:Option (Tmp×Bool)}{u0:BinOp}{u1:Operand}{u2:Operand}:km s (.op d g (.bin u0 u1 u2))=[]:=Mac rfl rfl
theorem G8{s:St}{u0:BinOp}{u1:Operand}{u2:Operand}:xf s (.bin u0 u1 u2)=true:=Mac rfl rfl
theorem v8{s:St}{d:Option Tmp}{g:Option (Tmp×Bool)}{u0:Bool}{u1:Operand}{u2:Operand}:km s (.op d g (.beq u0 u1 u2))=[]:=Mac rfl rfl
theorem F8{s:St}{u0:Bool}{u1:Operand}{u2:Operand}:xf s (.beq u0 u1 u2)=true:=Mac rfl rfl
theorem rd_un{s:St}{d:Option Tmp}{g:Option (Tmp×Bool)}{u0:UnOp}{u1:Operand}:km s (.op d g (.un u0 u1))=[]:=Mac rfl rfl
theorem sb_un{s:St}{u0:UnOp}{u1:Operand}:xf s (.un u0 u1)=true:=Mac rfl rfl
theorem PY{s:St}{d:Option Tmp}{g:Option (Tmp×Bool)}{u0:IntKind}{u1:Operand}:km s (.op d g (.conv u0 u1))=[]:=Mac rfl rfl
theorem fZ{s:St}{u0:IntKind}{u1:Operand}:xf s (.conv u0 u1)=true:=Mac rfl rfl
theorem KU{s:St}{d:Option Tmp}{g:Option (Tmp×Bool)}{u0:Nat}{u1:D}:km s (.op d g (.alloc u0 u1))=[]:=Mac rfl rfl
theorem jV{s:St}{u0:Nat}{u1:D}:xf s (.alloc u0 u1)=true:=Mac rfl rfl
theorem z8{s:St}{d:Option Tmp}{g:Option (Tmp×Bool)}{u0:Nat}{u1:Operand}:km s (.op d g (.box u0 u1))=[]:=Mac rfl rfl
theorem H8{s:St}{u0:Nat}{u1:Operand}:xf s (.box u0 u1)=true:=Mac rfl rfl
theorem LU{s:St}{d:Option Tmp}{g:Option (Tmp×Bool)}{u0:List D}{u1:List (Nat×Nat×Operand)}:km s (.op d g (.build u0 u1))=[]:=Mac rfl rfl
theorem kV{s:St}{u0:List D}{u1:List (Nat×Nat×Operand)}:xf s (.build u0 u1)=true:=Mac rfl rfl
theorem aR{s:St}{d:Option Tmp}{g:Option (Tmp×Bool)}{u0:Nat}{u1:Nat}{u2:D}{u3:List (Nat×Operand)}:km s (.op d g (.bslice u0 u1 u2 u3))=[]:=Mac rfl rfl
theorem qR{s:St}{u0:Nat}{u1:Nat}{u2:D}{u3:List (Nat×Operand)}:xf s (.bslice u0 u1 u2 u3)=true:=Mac rfl rfl
theorem RY{s:St}{d:Option Tmp}{g:Option (Tmp×Bool)}{u0:Bool}{u1:Nat}{u2:Operand}:km s (.op d g (.load u0 u1 u2))=Fs s [u2]:=Mac rfl rfl
theorem iZ{s:St}{u0:Bool}{u1:Nat}{u2:Operand}:xf s (.load u0 u1 u2)=true:=Mac rfl rfl
theorem WU{s:St}{d:Option Tmp}{g:Option (Tmp×Bool)}{u0:Nat}{u1:Operand}{u2:Operand}:km s (.op d g (.store u0 u1 u2))=Fs s [u1]:=Mac rfl rfl
theorem vV{s:St}{u0:Nat}{u1:Operand}{u2:Operand}:xf s (.store u0 u1 u2)=true:=Mac rfl rfl
theorem UY{s:St}{d:Option Tmp}{g:Option (Tmp×Bool)}{u0:Operand}:km s (.op d g (.nilc u0))=[]:=Mac rfl rfl
theorem lZ{s:St}{u0:Operand}:xf s (.nilc u0)=true:=Mac rfl rfl
theorem VU{s:St}{d:Option Tmp}{g:Option (Tmp×Bool)}{u0:Nat}{u1:Operand}{u2:Option Operand}{u3:Option Operand}{u4:Option Operand}:km s (.op d g (.slice u0 u1 u2 u3 u4))=Fs s [u1]:=Mac rfl rfl
theorem uV{s:St}{u0:Nat}{u1:Operand}{u2:Option Operand}{u3:Option Operand}{u4:Option Operand}:xf s (.slice u0 u1 u2 u3 u4)=true:=Mac rfl rfl
theorem MU{s:St}{d:Option Tmp}{g:Option (Tmp×Bool)}{u0:Bool}{u1:Nat}{u2:Nat}{u3:Operand}:km s (.op d g (.faddr u0 u1 u2 u3))=[]:=Mac rfl rfl
theorem lV{s:St}{u0:Bool}{u1:Nat}{u2:Nat}{u3:Operand}:xf s (.faddr u0 u1 u2 u3)=true:=Mac rfl rfl
theorem NU{s:St}{d:Option Tmp}{g:Option (Tmp×Bool)}{u0:Bool}{u1:Nat}{u2:Nat}{u3:Operand}:km s (.op d g (.field u0 u1 u2 u3))=[]:=Mac rfl rfl
theorem mV{s:St}{u0:Bool}{u1:Nat}{u2:Nat}{u3:Operand}:xf s (.field u0 u1 u2 u3)=true:=Mac rfl rfl
theorem OU{s:St}{d:Option Tmp}{g:Option (Tmp×Bool)}{u0:Nat}{u1:Operand}{u2:Operand}:km s (.op d g (.iaddr u0 u1 u2))=Fs s [u1]:=Mac rfl rfl
theorem nV{s:St}{u0:Nat}{u1:Operand}{u2:Operand}:xf s (.iaddr u0 u1 u2)=true:=Mac rfl rfl
theorem JU{s:St}{d:Option Tmp}{g:Option (Tmp×Bool)}{u0:Bool}{u1:Nat}{u2:Nat}{u3:Operand}{u4:Operand}:km s (.op d g (.aaddr u0 u1 u2 u3 u4))=[]:=Mac rfl rfl
theorem iV{s:St}{u0:Bool}{u1:Nat}{u2:Nat}{u3:Operand}{u4:Operand}:xf s (.aaddr u0 u1 u2 u3 u4)=true:=Mac rfl rfl
theorem PU{s:St}{d:Option Tmp}{g:Option (Tmp×Bool)}{u0:Bool}{u1:Nat}{u2:Nat}{u3:Operand}{u4:Operand}:km s (.op d g (.index u0 u1 u2 u3 u4))=[]:=Mac rfl rfl
theorem oV{s:St}{u0:Bool}{u1:Nat}{u2:Nat}{u3:Operand}{u4:Operand}:xf s (.index u0 u1 u2 u3 u4)=true:=Mac rfl rfl
theorem CN{s:St}{d:Option Tmp}{g:Option (Tmp×Bool)}{u0:Operand}{u1:Nat}:km s (.op d g (.extract u0 u1))=[]:=Mac rfl rfl
theorem RN{s:St}{u0:Operand}{u1:Nat}:xf s (.extract u0 u1)=true:=Mac rfl rfl
theorem C8{s:St}{d:Option Tmp}{g:Option (Tmp×Bool)}{u0:Operand}:km s (.op d g (.len u0))=Fs s [u0]:=Mac rfl rfl
theorem K8{s:St}{u0:Operand}:xf s (.len u0)=true:=Mac rfl rfl
theorem XY{s:St}{d:Option Tmp}{g:Option (Tmp×Bool)}{u0:Operand}:km s (.op d g (.slen u0))=[]:=Mac rfl rfl
theorem oZ{s:St}{u0:Operand}:xf s (.slen u0)=true:=Mac rfl rfl
theorem ZQ{s:St}{d:Option Tmp}{g:Option (Tmp×Bool)}{u0:Nat}{u1:Nat}{u2:Operand}{u3:Operand}:km s (.op d g (.append u0 u1 u2 u3))=Fs s [u2,u3]:=Mac rfl rfl
theorem pR{s:St}{u0:Nat}{u1:Nat}{u2:Operand}{u3:Operand}:xf s (.append u0 u1 u2 u3)=(match s.ev u2 with|.own ..=>true|_=>false):=Mac rfl rfl
theorem DN{s:St}{d:Option Tmp}{g:Option (Tmp×Bool)}{u0:Nat}{u1:Nat}{u2:D}{u3:Operand}{u4:Operand}:km s (.op d g (.mkslice u0 u1 u2 u3 u4))=[]:=Mac rfl rfl
theorem SN{s:St}{u0:Nat}{u1:Nat}{u2:D}{u3:Operand}{u4:Operand}:xf s (.mkslice u0 u1 u2 u3 u4)=true:=Mac rfl rfl
theorem cR{s:St}{d:Option Tmp}{g:Option (Tmp×Bool)}{u0:FuncId}{u1:List Operand}{u2:List Operand}:km s (.op d g (.mkfunc u0 u1 u2))=[]:=Mac rfl rfl
theorem rR{s:St}{u0:FuncId}{u1:List Operand}{u2:List Operand}:xf s (.mkfunc u0 u1 u2)=true:=Mac rfl rfl
theorem QY{s:St}{d:Option Tmp}{g:Option (Tmp×Bool)}  : km s (.op d g (.fail))=[]:=Mac rfl rfl
theorem gZ{s:St}  : xf s (.fail)=true:=Mac rfl rfl
theorem rd_mm{s:St}{d:Option Tmp}{g:Option (Tmp×Bool)}{u0:Bool}{u1:List Operand}:km s (.op d g (.mm u0 u1))=[]:=Mac rfl rfl
theorem sb_mm{s:St}{u0:Bool}{u1:List Operand}:xf s (.mm u0 u1)=true:=Mac rfl rfl
theorem A8{s:St}{d:Option Tmp}{g:Option (Tmp×Bool)}{u0:Bool}{u1:List Nat}{u2:Operand}{u3:Operand}:km s (.op d g (.ceq u0 u1 u2 u3))=[]:=Mac rfl rfl
theorem I8{s:St}{u0:Bool}{u1:List Nat}{u2:Operand}{u3:Operand}:xf s (.ceq u0 u1 u2 u3)=true:=Mac rfl rfl
theorem YY{s:St}{d:Option Tmp}{g:Option (Tmp×Bool)}{u0:Nat}{u1:Operand}:km s (.op d g (.strb u0 u1))=[]:=Mac rfl rfl
theorem pZ{s:St}{u0:Nat}{u1:Operand}:xf s (.strb u0 u1)=true:=Mac rfl rfl
theorem WY{s:St}{d:Option Tmp}{g:Option (Tmp×Bool)}{u0:Operand}{u1:Operand}:km s (.op d g (.fu u0 u1))=[]:=Mac rfl rfl
theorem nZ{s:St}{u0:Operand}{u1:Operand}:xf s (.fu u0 u1)=true:=Mac rfl rfl
theorem dR{s:St}{d:Option Tmp}{g:Option (Tmp×Bool)}{u0:Operand}{u1:Option Operand}{u2:Option Operand}:km s (.op d g (.sslice u0 u1 u2))=[]:=Mac rfl rfl
theorem sR{s:St}{u0:Operand}{u1:Option Operand}{u2:Option Operand}:xf s (.sslice u0 u1 u2)=true:=Mac rfl rfl
theorem SU{s:St}{d:Option Tmp}{g:Option (Tmp×Bool)}  : km s (.op d g (.mkmap))=[]:=Mac rfl rfl
theorem rV{s:St}  : xf s (.mkmap)=true:=Mac rfl rfl
theorem TU{s:St}{d:Option Tmp}{g:Option (Tmp×Bool)}{u0:Nat}{u1:Bool}{u2:D}{u3:Operand}{u4:Operand}:km s (.op d g (.mlook u0 u1 u2 u3 u4))=Fs s [u3]:=Mac rfl rfl
theorem sV{s:St}{u0:Nat}{u1:Bool}{u2:D}{u3:Operand}{u4:Operand}:xf s (.mlook u0 u1 u2 u3 u4)=true:=Mac rfl rfl
theorem TY{s:St}{d:Option Tmp}{g:Option (Tmp×Bool)}{u0:Nat}{u1:Operand}{u2:Operand}{u3:Operand}:km s (.op d g (.mput u0 u1 u2 u3))=[]:=Mac rfl rfl
theorem kZ{s:St}{u0:Nat}{u1:Operand}{u2:Operand}{u3:Operand}:xf s (.mput u0 u1 u2 u3)=true:=Mac rfl rfl
theorem SY{s:St}{d:Option Tmp}{g:Option (Tmp×Bool)}{u0:Operand}:km s (.op d g (.mlen u0))=Fs s [u0]:=Mac rfl rfl
theorem jZ{s:St}{u0:Operand}:xf s (.mlen u0)=true:=Mac rfl rfl
theorem XU{s:St}{d:Option Tmp}{g:Option (Tmp×Bool)}{u0:Nat}{u1:Operand}{u2:Option Operand}{u3:Option Operand}:km s (.op d g (.trunc u0 u1 u2 u3))=Fs s [u1]:=Mac rfl rfl
theorem wV{s:St}{u0:Nat}{u1:Operand}{u2:Option Operand}{u3:Option Operand}:xf s (.trunc u0 u1 u2 u3)=(match s.ev u1 with|.own ..=>true|_=>false):=Mac rfl rfl
theorem RU{s:St}{d:Option Tmp}{g:Option (Tmp×Bool)}{u0:TypeId}{u1:Operand}:km s (.op d g (.mkifc u0 u1))=[]:=Mac rfl rfl
theorem qV{s:St}{u0:TypeId}{u1:Operand}:xf s (.mkifc u0 u1)=true:=Mac rfl rfl
theorem EN{s:St}{d:Option Tmp}{g:Option (Tmp×Bool)}{u0:Bool}{u1:TypeId}{u2:D}{u3:Operand}:km s (.op d g (.tassert u0 u1 u2 u3))=[]:=Mac rfl rfl
theorem TN{s:St}{u0:Bool}{u1:TypeId}{u2:D}{u3:Operand}:xf s (.tassert u0 u1 u2 u3)=true:=Mac rfl rfl
theorem B8{s:St}{d:Option Tmp}{g:Option (Tmp×Bool)}{u0:Nat}{u1:D}{u2:Operand}:km s (.op d g (.clr u0 u1 u2))=[]:=Mac rfl rfl
theorem J8{s:St}{u0:Nat}{u1:D}{u2:Operand}:xf s (.clr u0 u1 u2)=true:=Mac rfl rfl
theorem OY{s:St}{d:Option Tmp}{g:Option (Tmp×Bool)}{u0:Operand}:km s (.op d g (.capn u0))=[]:=Mac rfl rfl
theorem eZ{s:St}{u0:Operand}:xf s (.capn u0)=true:=Mac rfl rfl
theorem UU{s:St}{d:Option Tmp}{g:Option (Tmp×Bool)}{u0:Bool}{u1:Operand}:km s (.op d g (.Ot u0 u1))=Fs s [u1]:=Mac rfl rfl
theorem tV{s:St}{u0:Bool}{u1:Operand}:xf s (.Ot u0 u1)=true:=Mac rfl rfl
theorem QU{s:St}{d:Option Tmp}{g:Option (Tmp×Bool)}{u0:Nat}{u1:Nat}{u2:D}{u3:Operand}{u4:Operand}:km s (.op d g (.mkapp u0 u1 u2 u3 u4))=[]:=Mac rfl rfl
theorem pV{s:St}{u0:Nat}{u1:Nat}{u2:D}{u3:Operand}{u4:Operand}:xf s (.mkapp u0 u1 u2 u3 u4)=true:=Mac rfl rfl
section
variable {ps:List (List Nat)} {q k t:Nat} {b:Bool} {dst:Option Tmp} {i:I} {l:List RI} {K:St->Prop} {fp:List (List Nat)} {s:St} {args:List Operand} {R:List (List Nat)->St->Prop} {p f g:List Nat} {x y:Nat} {o:Operand} {os:List Operand} {st:List D} {m:List Ent} {S:Nat} {r:List D}
theorem WW:Uu P ps 0 l K fp s=Zg P l K s:=by simp only[Uu]
theorem faa:Uu P ps (q+1) (.op dst none i::l) K fp s=SQ (Uu P ps.tail q l K) fp (ps.headD []) dst i s:=by simp only[Uu]
theorem R4:Uu P ps (q+1) (.op dst (some (t,b)) i::l) K fp ⟨st,m⟩=gD (st.getD t .dead) b (SQ (Uu P ps.tail q l K) fp (ps.headD []) dst i) ⟨st.set t (.v (.bool b)),m⟩ (M8 (Uu P ps.tail q l K) fp (ps.headD []) dst i) ⟨st.set t (.v (.bool (!b))),m⟩ ⟨st,m⟩:=by simp only[Uu]
theorem VW:Uu P ps (q+1) (.call dst none (.func k) args::l) K fp s=rS P (Uu P ps.tail q l K) fp (ps.headD []) k dst args s:=by simp only[Uu]
theorem WS:Uu P ps (q+1) (.call dst (some (t,b)) (.func k) args::l) K fp ⟨st,m⟩=gD (st.getD t .dead) b (rS P (Uu P ps.tail q l K) fp (ps.headD []) k dst args) ⟨st.set t (.v (.bool b)),m⟩ (S9 (Uu P ps.tail q l K) fp (ps.headD []) dst args) ⟨st.set t (.v (.bool (!b))),m⟩ ⟨st,m⟩:=by simp only[Uu]
theorem opY_q:SQ R fp p dst i s=(fA fp (km s (.op dst none i)) p=true/\xf s i=true/\lp (fa s i) (KO (R (fp++[km s (.op dst none i)])) s dst)):=Mac rfl rfl
theorem skY_q:M8 R fp p dst i s=(fA fp (km s (.op dst none i)) p=true/\R (fp++[km s (.op dst none i)]) (s.put dst (.v undef))):=Mac rfl rfl
theorem P9:rS P R fp p k dst args s=(fA fp (Hb s args) p=true/\Aw P k (args.map s.ev) (Hb s args) (R (fp++[Hb s args])) s dst):=Mac rfl rfl
theorem T9:S9 R fp p dst args s=(fA fp (Hb s args) p=true/\R (fp++[Hb s args]) (s.put dst (.v undef))):=Mac rfl rfl
theorem Z8:Hb s []=[]:=Mac rfl rfl
theorem HZ:Hb s (o::os)=Zl (s.ev o)++Hb s os:=Mac rfl rfl
theorem id_v{z:Value}:Zl (.v z)=[]:=Mac rfl rfl
theorem o6:Zl (.agg r)=Dk r:=Mac rfl rfl
theorem w6:Zl (.tup r)=Dk r:=Mac rfl rfl
theorem Gaa:Zl (.sl S r)=Dk r:=Mac rfl rfl
theorem Faa{d:D}:Zl (.pt d)=Zl d:=Mac rfl rfl
theorem Eaa{a c:List D}:Zl (.fn k a c)=Dk a++Dk c:=Mac rfl rfl
theorem HX:Zl .dead=[]:=Mac rfl rfl
theorem r6:Zl (.own x y)=[x]:=Mac rfl rfl
theorem u6{u v:Nat}:Zl (.ref x y u v)=[x]:=Mac rfl rfl
theorem IX{u v:Nat}:Zl (.view x y u v)=[x]:=Mac rfl rfl
theorem q6:Dk []=[]:=Mac rfl rfl
theorem GX{d:D}:Dk (d::r)=Zl d++Dk r:=Mac rfl rfl
theorem id_map{α:Type}{f:α->D} [Fr f] {l:List α}:Dk (l.map f)=[]:=Jt (Fr.l l)
theorem XV:Fs s []=[]:=Mac rfl rfl
theorem xR:Fs s (o::os)=(match Ud (s.ev o)with|some id=>id::Fs s os|none=>Fs s os):=Mac rfl rfl
theorem M3:fA fp f []=true:=Mac rfl rfl
theorem EW{j:Nat}:fA fp f (j::p)=(np (fp.getD j []) f&&fA fp f p):=Mac rfl rfl
theorem G9:np [] f=true:=Mac rfl rfl
theorem H9:np (x::g) f=(gx x f&&np g f):=Mac rfl rfl
theorem ap_0:gx x []=true:=Mac rfl rfl
theorem ap_s:gx x (y::g)=(VO x y&&gx x g):=Mac rfl rfl
theorem ne_00:VO 0 0=false:=Mac rfl rfl
theorem ne_0S:VO 0 (y+1)=true:=Mac rfl rfl
theorem ne_S0:VO (x+1) 0=true:=Mac rfl rfl
theorem ne_SS:VO (x+1) (y+1)=VO x y:=Mac rfl rfl
theorem top_v{z:Value}:Ud (.v z)=none:=Mac rfl rfl
theorem IZ:Ud (.agg r)=none:=Mac rfl rfl
theorem MZ:Ud (.tup r)=none:=Mac rfl rfl
theorem n9:Ud (.sl S r)=none:=Mac rfl rfl
theorem l9{d:D}:Ud (.pt d)=none:=Mac rfl rfl
theorem VV:Ud .dead=none:=Mac rfl rfl
theorem JZ:Ud (.own x y)=some x:=Mac rfl rfl
theorem LZ{u v:Nat}:Ud (.ref x y u v)=some x:=Mac rfl rfl
theorem WV{u v:Nat}:Ud (.view x y u v)=some x:=Mac rfl rfl
theorem hd_n{l:List Nat}{ps:List (List Nat)}:(l::ps).headD []=l:=Mac rfl rfl
theorem tl_n{l:List Nat}{ps:List (List Nat)}:(l::ps).tail=ps:=Mac rfl rfl
theorem hd_0:([]:List (List Nat)).headD []=[]:=Mac rfl rfl
theorem tl_0:([]:List (List Nat)).tail=[]:=Mac rfl rfl
end
def zy:=(And.intro (And.intro (And.intro (And.intro (And.intro (And.intro (And.intro (And.intro @rd_mv @sb_mv) (And.intro @VY @mZ)) (And.intro (And.intro @w8 @G8) (And.intro @v8 @F8))) (And.intro (And.intro (And.intro @rd_un @sb_un) (And.intro @PY @fZ)) (And.intro (And.intro @KU @jV) (And.intro @z8 @H8)))) (And.intro (And.intro (And.intro (And.intro @LU @kV) (And.intro @aR @qR)) (And.intro (And.intro @RY @iZ) (And.intro @WU @vV))) (And.intro (And.intro (And.intro @UY @lZ) (And.intro @VU @uV)) (And.intro (And.intro @MU @lV) (And.intro @NU @mV))))) (And.intro (And.intro (And.intro (And.intro (And.intro @OU @nV) (And.intro @JU @iV)) (And.intro (And.intro @PU @oV) (And.intro @CN @RN))) (And.intro (And.intro (And.intro @C8 @K8) (And.intro @XY @oZ)) (And.intro (And.intro @ZQ @pR) (And.intro @DN @SN)))) (And.intro (And.intro (And.intro (And.intro @cR @rR) (And.intro @QY @gZ)) (And.intro (And.intro @rd_mm @sb_mm) (And.intro @A8 @I8))) (And.intro (And.intro (And.intro @YY @pZ) (And.intro @WY @nZ)) (And.intro (And.intro @dR @sR) (And.intro @SU @rV)))))) (And.intro (And.intro (And.intro (And.intro (And.intro (And.intro @TU @sV) (And.intro @TY @kZ)) (And.intro (And.intro @SY @jZ) (And.intro @XU @wV))) (And.intro (And.intro (And.intro @RU @qV) (And.intro @EN @TN)) (And.intro (And.intro @B8 @J8) (And.intro @OY @eZ)))) (And.intro (And.intro (And.intro (And.intro @UU @tV) (And.intro @QU @pV)) (And.intro (And.intro @WW @faa) (And.intro @R4 @VW))) (And.intro (And.intro (And.intro @WS @opY_q) (And.intro @skY_q @P9)) (And.intro (And.intro @T9 @Z8) (And.intro @HZ @id_v))))) (And.intro (And.intro (And.intro (And.intro (And.intro @o6 @w6) (And.intro @Gaa @Faa)) (And.intro (And.intro @Eaa @HX) (And.intro @r6 @u6))) (And.intro (And.intro (And.intro @IX @q6) (And.intro @GX @id_map)) (And.intro (And.intro @XV @xR) (And.intro @M3 @EW)))) (And.intro (And.intro (And.intro (And.intro @G9 @H9) (And.intro @ap_0 @ap_s)) (And.intro (And.intro @ne_00 @ne_0S) (And.intro @ne_S0 @ne_SS))) (And.intro (And.intro (And.intro @top_v @IZ) (And.intro @MZ @n9)) (And.intro (And.intro @l9 @VV) (And.intro @JZ @LZ))))))) (And.intro (And.intro (And.intro (And.intro @WV @hd_n) (And.intro @tl_n @hd_0)) (And.intro (And.intro @tl_0 @r7) (And.intro @TX @u7))) (And.intro (And.intro (And.intro @lq_v @o7) (And.intro @lq_sl @lq_pt)) (And.intro @lq_fr @q7))))
section
variable {P:Program} {N:Nat} {ops:Array Oper} {Q:Exit->Act->World->Prop} {K:St->Prop} {rl:List RI} {q:Nat} {ps:List (List Nat)} {pl:List (Option Nat)}
def kX(R:List (List Nat)->St->Prop) (fp:List (List Nat)) (p:List Nat) (k:Nat) (dst:Option Tmp) (i:I) (s:St):Prop:=
 fA fp [k] p=true/\match Km s k i with
  |some (d,e)=>R (fp++[[k]]) (({ s with m:=s.m.set k e }:St).put dst d)
  |none=>False
def TC(P:Program) (k:FuncId) (ds:List D) (ids:List Nat) (fp:List (List Nat)) (p:List Nat) (x:Nat) (f:D->Ent->Prop) (s:St):Prop:=
 (ids.elem x&&fA fp ids p)=true/\∃d e,((∀id∈ids,id<s.m.length)/\∀m,(∀id∈ids,m[id]?=s.m[id]?)->CallT P k ds m λd' m'=>d'=d/\m'=m.set x e)/\f d e
@[congr] theorem K0{P:Program} {k:FuncId} {ds ds':List D} {ids ids':List Nat} {fp fp':List (List Nat)} {p p':List Nat} {x:Nat} {f:D->Ent->Prop} {s:St} (h1:ds=ds') (h2:ids=ids') (h3:fp=fp') (h4:p=p'):TC P k ds ids fp p x f s=TC P k ds' ids' fp' p' x f s:=by simp_all
def cwY(P:Program) (R:List (List Nat)->St->Prop) (fp:List (List Nat)) (p:List Nat) (x:Nat) (k:FuncId) (dst:Option Tmp) (args:List Operand) (s:St):Prop:=
 TC P k (args.map s.ev) (Hb s args) fp p x (λd e=>R (fp++[Hb s args]) (({ s with m:=s.m.set x e }:St).put dst d)) s
def Rg(P:Program):List (Option Nat)->List (List Nat)->Nat->List RI->(St->Prop)->List (List Nat)->St->Prop
 |_,_,0,l,K,_,s=>Zg P l K s
 |_,_,_+1,[],_,_,_=>False
 |some k::pl,ps,q+1,.op dst none i::l,K,fp,s=>kX (Rg P pl ps.tail q l K) fp (ps.headD []) k dst i s
 |none::pl,ps,q+1,.op dst none i::l,K,fp,s=>SQ (Rg P pl ps.tail q l K) fp (ps.headD []) dst i s
 |none::pl,ps,q+1,.op dst (some (t,b)) i::l,K,fp,s=>
  gD (s.t.getD t .dead) b (SQ (Rg P pl ps.tail q l K) fp (ps.headD []) dst i) ⟨s.t.set t (.v (.bool b)),s.m⟩ (M8 (Rg P pl ps.tail q l K) fp (ps.headD []) dst i) ⟨s.t.set t (.v (.bool (!b))),s.m⟩ s
 |none::pl,ps,q+1,.call dst none (.func k) args::l,K,fp,s=>rS P (Rg P pl ps.tail q l K) fp (ps.headD []) k dst args s
 |some x::pl,ps,q+1,.call dst none (.func k) args::l,K,fp,s=>cwY P (Rg P pl ps.tail q l K) fp (ps.headD []) x k dst args s
 |_,_,_+1,_::_,_,_,_=>False
theorem vx:∀{q:Nat}{l:List RI}{pl:List (Option Nat)}{ps:List (List Nat)}{fp:List (List Nat)}{s:St},Rg P pl ps q l K fp s->mn P pl ps fp q l K s
 |0,l,pl,ps,fp,s,h=>by simp only[Rg]at h;simp only[mn];exact Cs h
 |q+1,[],pl,ps,fp,s,h=>by simp[Rg]at h
 |q+1,.op dst none i::l,some k::pl,ps,fp,s,h=>by
  simp only[Rg,kX]at h;obtain⟨h1,h2⟩:=h;split at h2
  .rename_i d e hf;simp only[mn];exact⟨h1,trivial,d,e,hf,vx h2⟩
  simp_all
 |q+1,.op dst none i::l,none::pl,ps,fp,s,h=>by
  simp only[Rg,SQ]at h;obtain⟨h1,h0,h2⟩:=h;simp only[mn,gate];obtain⟨d,m',h3,h4⟩:=(Cl _ _).1 h2;exact⟨h1,d,m',h0,h3,vx h4⟩
 |q+1,.op dst (some (t,b)) i::l,none::pl,ps,fp,⟨st,sm⟩,h=>by
  simp only[Rg]at h;have h:=BF rfl h;have hrid:∀s,km s (.op dst (some (t,b)) i)=km s (.op dst none i):=λ_=>rfl;simp only[mn];show fA fp (km _ (.op dst (some (t,b)) i)) (ps.headD [])=true/\_;rw[hrid];split at h
  .simp_all
  .grind[gate]
  .rename_i c b' hg;refine⟨?_,?_⟩
   .by_cases hc:c=b'
    .exact(h.1 hc).1
    .exact(h.2 hc).1
   rw[hg];by_cases hc:c=b'
   .obtain⟨h1,h0,h2⟩:=h.1 hc;obtain⟨d,m',h3,h4⟩:=(Cl _ _).1 h2;exact⟨λ_=>⟨d,m',h0,h3,vx h4⟩,λhn=>(hn hc).elim⟩
   .obtain⟨h1,h2⟩:=h.2 hc;exact⟨λhn=>(hc hn).elim,λ_=>vx h2⟩
 |q+1,.call dst none (.func k) args::l,none::pl,ps,fp,s,h=>by
  simp only[Rg,rS,Aw]at h;obtain⟨h0,d,h1,h2⟩:=h;simp only[mn,gate];exact⟨h0,d,by simp_all,vx h2⟩
 |q+1,.op dst g i::l,[],ps,fp,s,h=>by simp[Rg]at h
 |q+1,.op dst (some g) i::l,some k::pl,ps,fp,s,h=>by simp[Rg]at h
 |q+1,.call dst g f args::l,[],ps,fp,s,h=>by simp[Rg]at h
 |q+1,.call dst none (.func k) args::l,some x::pl,ps,fp,s,h=>by
  simp only[Rg,cwY,TC]at h;obtain⟨h0,d,e,h1,h2⟩:=h;simp only[Sac,List.elem_eq_mem,decide_eq_true_eq]at h0;obtain⟨h0,h0'⟩:=h0;simp only[mn];exact⟨trivial,h0,h0',d,e,by simp_all,vx h2⟩
 |q+1,.call dst (some g) f args::l,some x::pl,ps,fp,s,h=>by simp[Rg]at h
 |q+1,.call dst none (.tmp _) args::l,some x::pl,ps,fp,s,h=>by simp[Rg]at h
 |q+1,.call dst none (.const _) args::l,some x::pl,ps,fp,s,h=>by simp[Rg]at h
 |q+1,.call dst none (.global _) args::l,some x::pl,ps,fp,s,h=>by simp[Rg]at h
 |q+1,.call dst none (.meth _ _) args::l,some x::pl,ps,fp,s,h=>by simp[Rg]at h
 |q+1,.call dst (some g) f args::l,none::pl,ps,fp,s,h=>by simp[Rg]at h
 |q+1,.call dst none (.tmp _) args::l,none::pl,ps,fp,s,h=>by simp[Rg]at h
 |q+1,.call dst none (.const _) args::l,none::pl,ps,fp,s,h=>by simp[Rg]at h
 |q+1,.call dst none (.global _) args::l,none::pl,ps,fp,s,h=>by simp[Rg]at h
 |q+1,.call dst none (.meth _ _) args::l,none::pl,ps,fp,s,h=>by simp[Rg]at h
theorem T.ao(hm:P.follows .mixedOrders=true) {cuts:List Nat}{bs:List (List Nat)}{l:List RI}{K:Exit->St->Prop}{s:St}(ps:List (List Nat)) (pl:List (Option Nat)) (hok:Bu bs l q ps pl=true) (hpl:Ls s.m pl=true) (h:Rg P pl ps q l (K .normal) [] s):T P N (.any cuts q bs l) K s:=
 T.F9 hm ps pl hok hpl (vx h)
def rz:List (Option Nat)->List RI->Bool
 |none::pl,_::l=>rz pl l
 |some _::pl,.call ..::l=>rz pl l
 |[],_=>true
 |_,_=>false
theorem eG:∀{pl:List (Option Nat)}{l:List RI},rz pl l=true->∀i p,pO pl i=some p->∃a b c d,l[i]?=some (.call a b c d)
 |[],l,_,i,p,h=>by grind[pO]
 |none::pl,[],h,_,_,_=>by grind[rz]
 |some _::pl,[],h,_,_,_=>by grind[rz]
 |none::pl,y::l,h,0,p,h2=>by grind[pO]
 |none::pl,y::l,h,i+1,p,h2=>by
  simp only[rz]at h;simpa using eG h i p (by grind[pO])
 |some x::pl,.call a b c d::l,h,0,p,h2=>⟨a,b,c,d,rfl⟩
 |some x::pl,.call a b c d::l,h,i+1,p,h2=>by
  simp only[rz]at h;simpa using eG h i p (by grind[pO])
 |some x::pl,.op a b c::l,h,_,_,_=>by grind[rz]
theorem T.dp(hm:P.follows .mixedOrders=true) {l:List RI}{K:Exit->St->Prop}{s:St}(ps:List (List Nat)) (pl:List (Option Nat)) (hps:ps=fx q) (hcl:rz pl l=true) (hpl:Ls s.m pl=true) (h:Rg P pl ps q l (K .normal) [] s):T P N (.draw q l) K s:=by
 subst hps;exact T.eaa hm (fx q) pl (eG hcl) CK hpl (vx h)
end
section
variable {P:Program} {pl:List (Option Nat)} {ps:List (List Nat)} {q k t:Nat} {b:Bool} {dst:Option Tmp} {i:I} {l:List RI} {K:St->Prop} {fp:List (List Nat)} {s:St} {st:List D} {m:List Ent} {args:List Operand} {R:List (List Nat)->St->Prop} {p:List Nat} {z:D} {S:Nat} {x:Operand}
theorem UW:Rg P pl ps 0 l K fp s=Zg P l K s:=by simp only[Rg]
theorem O4:Rg P (some k::pl) ps (q+1) (.op dst none i::l) K fp s=kX (Rg P pl ps.tail q l K) fp (ps.headD []) k dst i s:=by simp only[Rg]
theorem caa:Rg P (none::pl) ps (q+1) (.op dst none i::l) K fp s=SQ (Rg P pl ps.tail q l K) fp (ps.headD []) dst i s:=by simp only[Rg]
theorem P4:Rg P (none::pl) ps (q+1) (.op dst (some (t,b)) i::l) K fp ⟨st,m⟩=gD (st.getD t .dead) b (SQ (Rg P pl ps.tail q l K) fp (ps.headD []) dst i) ⟨st.set t (.v (.bool b)),m⟩ (M8 (Rg P pl ps.tail q l K) fp (ps.headD []) dst i) ⟨st.set t (.v (.bool (!b))),m⟩ ⟨st,m⟩:=by simp only[Rg]
theorem TW:Rg P (none::pl) ps (q+1) (.call dst none (.func k) args::l) K fp s=rS P (Rg P pl ps.tail q l K) fp (ps.headD []) k dst args s:=by simp only[Rg]
theorem VS{x:Nat}:Rg P (some x::pl) ps (q+1) (.call dst none (.func k) args::l) K fp s=cwY P (Rg P pl ps.tail q l K) fp (ps.headD []) x k dst args s:=by simp only[Rg]
theorem U9{R:List (List Nat)->St->Prop}{p:List Nat}{x:Nat}:cwY P R fp p x k dst args s=TC P k (args.map s.ev) (Hb s args) fp p x (λd e=>R (fp++[Hb s args]) (({ s with m:=s.m.set x e }:St).put dst d)) s:=Mac rfl rfl
theorem q5:kX R fp p k dst i s=(fA fp [k] p=true/\match Km s k i with|some (d,e)=>R (fp++[[k]]) (({ s with m:=s.m.set k e }:St).put dst d)|none=>False):=Mac rfl rfl
theorem mT:Km s k (.alloc S z)=(match s.m[k]? with|some (.live S' Ma [])=>if S'=S then some (.ref k (Ma+1) 0 0,.live S (Ma+1) [z])else none|_=>none):=Mac rfl rfl
theorem n5:Km s k (.box S x)=(match s.m[k]? with|some (.live S' Ma [])=>if S'=S/\(s.ev x).ok=true/\Nt S (s.ev x).cells=true then some (.ref k (Ma+1) 0 0,.live S (Ma+1) [s.ev x])else none|_=>none):=by simp only[Iq];rfl
theorem o5{n:Nat}{qs:List (Nat×Operand)}:Km s k (.bslice S n z qs)=(match s.m[k]? with|some (.live S' Ma [])=>if S'=S then(vc s S qs (Nac n z)).map λl=>(.own k (Ma+1),.live S (Ma+1) l)else none|_=>none):=Mac rfl rfl
end
def zo:=(And.intro (And.intro (And.intro (And.intro @UW @O4) (And.intro @caa @P4)) (And.intro (And.intro @TW @VS) (And.intro @U9 @q5))) (And.intro (And.intro @mT @n5) @o5))
theorem rP{G G':Gh}{w w':World}(hle:SubF G w G' w') {d d':D}(hd:∀u,VRel G w d u->VRel G' w' d' u) {post:List D}(hpost:ja post=true) :
 ∀{pre:List D} {us:List Value},ja pre=true->VsRel G w (pre++d::post) us->VsRel G' w' (pre++d'::post) us
 |[],us,_,h=>by
  simp only[Yad,VsRel]at h⊢;obtain⟨u,r,rfl,h1,h2⟩:=h;exact⟨u,r,rfl,hd u h1,VsRel.free hle hpost h2⟩
 |p::pre,us,hp,h=>by
  simp only[ja,Sac]at hp;simp only[mad,VsRel]at h⊢;obtain⟨u,r,rfl,h1,h2⟩:=h;exact⟨u,r,rfl,VRel.free hle hp.1 h1,rP hle hd hpost hp.2 h2⟩
section
variable {P:Program}
end
variable {P:Program}
def C0(P:Program) (f:FuncId) (ds:List D) (m:List Ent) (R:D->List Ent->Prop):Prop:=
 Enters P f/\∀(G:Gh) (w:World) (vs:List Value),VsRel G w ds vs->Inv G w m->
  Calls P f vs.toArray w λe w'=>∃v d m' G',e=.returned v/\R d m'/\VRel G' w' d v/\Inv G' w' m'/\StepN 0 G w m G' w' m'
theorem iS{f:FuncId}{F:Fun}{ds:List D}{m:List Ent}{R:D->List Ent->Prop}(hF:rv P f=some F) (hname:((P.funcs[f]?).map λfn=>fn.name == "runtime.NumGoroutine")=some false)
 (h:T P 0 F.code (wz F.results R) ⟨ds++Nac (F.ntmps-ds.length) .dead,m⟩):C0 P f ds m R:=by
 unfold rv at hF;split at hF
 .rename_i fn hfn;split at hF
  .rename_i b r hb hres;simp only[Oac]at hF;obtain⟨c,hc,rfl⟩:=hF;refine⟨⟨fn,hfn,by simp_all,by simp_all⟩,λG w vs hv hi=>?_⟩;refine calls_of_wp hfn hb ?_;have hlen:=hv.length;have hr:Rel G w { tmps:=vs.toArray++Array.replicate (fn.ntmps-vs.toArray.size) undef,defers:=[] } ⟨ds++Nac (fn.ntmps-ds.length) .dead,m⟩:=by
    refine⟨?_,hi,rfl⟩;simp only[Array.toList_append,Array.toList_replicate,List.size_toArray,hlen];exact hv.append (mK _ _ _)
   refine Code.wp_mono ?_ (h b hc G w _ (Sad _) hr);rintro e a' w' ⟨s',G',hK,hr',hs0⟩;have fin:(∃ds,Cb s' r=some ds/\R (Kn ds) s'.m)->a'.defers=[]/\∃v,(results fn a'.tmps).run P w'=.ok v w'/\∃v_1 d m' G',Ending.returned v=.returned v_1/\R d m'/\VRel G' w' d v_1/\Inv G' w' m'/\StepN 0 G w m G' w' m':=by
    rintro⟨es,hes,hR⟩;obtain⟨v,hrun,hv'⟩:=CD (F:=⟨fn.ntmps,r,c⟩) hres hr' hes;exact⟨hr'.defers,v,hrun,v,_,_,G',rfl,hR,hv',hr'.inv,hs0⟩
   cases e with
   |normal=>exact fin hK
   |ret=>exact fin hK
   |_=>exact hK.elim
  simp_all
 simp_all
theorem w5{k id S Ma:Nat}{l:List D}{m:List Ent}{pre post:List D}{o:D}
 (hid:m[id]?=some (.live S Ma l)) (hpre:ja pre=true) (hpost:ja post=true) (hl:ja l=true)
 (h:C0 P k (pre++.own 0 0::post) [.live S 0 l] λd m'=>Sbs [] m' [d] [o]) :
 CallT P k (pre++.own id Ma::post) m λd m'=>d=o/\m'=m.set id .gone:=by
 refine⟨h.1,λG w vs hv hi=>?_⟩;have hlen:id<m.length:=(oad.1 hid).1;obtain⟨eV,eS,eN,eC,eB⟩:=hi.ent id _ hid;have hc0:SubF G w ⟨G.F,1,λ_=>G.B id,λ_=>0,λ_=>G.S id,λ_=>G.N id,λ_=>G.C id⟩ w:=⟨λ_ h=>h,λ_ _=>rfl⟩;have hv':=rP hc0 (d:=.own id Ma) (d':=.own 0 0) (λu hu=>by
  simp only[VRel]at hu⊢
  grind) hpost hpre hv
 have hic:Inv ⟨G.F,1,λ_=>G.B id,λ_=>0,λ_=>G.S id,λ_=>G.N id,λ_=>G.C id⟩ w [.live S 0 l]:=by
  refine⟨rfl,hi.F,?_,?_,hi.gl.bare λ_ h=>h⟩
  .intro i e he
   cases i with
   |zero=>
    simp at he;subst he;refine⟨rfl,eS,eN,eC,?_⟩;rcases eB with h|⟨b,cs,T,h1,h2,h3,h4,h5⟩
    .simp_all
    .exact .inr ⟨b,cs,T,h1,h2,h3,h4,Ua.free hc0 rfl hl h5⟩
   |succ i=>simp at he
  grind
 have own0:∀b,Ze ⟨G.F,1,λ_=>G.B id,λ_=>0,λ_=>G.S id,λ_=>G.N id,λ_=>G.C id⟩ [.live S 0 l] b->G.B id=some b:=by
  rintro b ⟨i,e,he,-,hB⟩;omega
 refine(h.2 _ w vs hv' hic).mono ?_;rintro e w' ⟨v,d,m',G',rfl,hR,hvd,hi',hs'⟩;have live1:(Ent.live S Ma l).isLive=true:=rfl;have hT:=(hR.rel hi' (λi j v h=>by grind)).1 [v] (by simp only[VsRel];simp_all);simp only[VsRel]at hT;obtain⟨u,us,he,h1,_⟩:=hT;injection he with he _;subst he;have hfree:=RG hR;simp only[ja,Xac]at hfree;have hle:Le G w ⟨λb=>G'.F b\/Ze G' m' b,G.n,G.B,G.V,G.S,G.N,G.C⟩ w':=by
  refine⟨λb hb=>.inl (hs'.F b hb),λb hb=>hs'.heap b hb,cad _,λi _=>.inl (by simp)⟩
 have olt:∀i x,m[i]?=some x->x.isLive=true->∀b,G.B i=some b->b<w.heap.size/\¬G.F b:=λi x hx hl b hb=>(hi.ent i x hx).lt hl hb;have notO:∀i x,m[i]?=some x->x.isLive=true->i≠id->∀b,G.B i=some b->G.B id≠some b:=λi x hx hlx hne b hb hB=>hne (hi.apart i id x _ hx hid hlx live1 b hb hB);have hget:∀i x,(m.set id .gone)[i]?=some x->(m[i]?=some x/\i≠id)\/(i=id/\x=.gone):=by
  grind
 refine⟨v,o,_,⟨λb=>G'.F b\/Ze G' m' b,G.n,G.B,G.V,G.S,G.N,G.C⟩,rfl,⟨rfl,rfl⟩,?_,⟨by simp[hi.n],?_,?_,?_,hi'.gl.bare λ_ h=>.inl h⟩,⟨hle,hs'.os,hs'.tape,hs'.output,hs'.size,?_,?_,?_⟩⟩
 .refine VRel.free (G:=Xb G' m' []) ⟨?_,λ_ _=>rfl⟩ hfree h1;rintro b (hb|⟨hb,_⟩)
  all_goals simp_all
 .rintro b (hb|hb)
  .exact hi'.F b hb
  .exact(Ze.lt hi' hb).1
 .intro i x hx;rcases hget i x hx with⟨h1,h2⟩|⟨rfl,rfl⟩
  .by_cases hlx:x.isLive=true
   .refine(hi.ent i x h1).mono hle (by simp) (λb hb=>?_) (λb hb _ hF=>?_)
    .exact hs'.keep b (olt i x h1 hlx b hb).1 λho=>notO i x h1 hlx h2 b hb (own0 b ho)
    .rcases hF with hF|hF
     .rcases hs'.newF b (olt i x h1 hlx b hb).1 hF with h|h
      all_goals grind
     .exact(notO i x h1 hlx h2 b hb (own0 b (hs'.newB b (olt i x h1 hlx b hb).1 hF))).elim
   .cases x with
    |gone=>trivial
    |_=>grind[Ent.isLive]
  .trivial
 .intro i j x y hx hy lx ly b hb hb';rcases hget i x hx with⟨h1,h2⟩|⟨rfl,rfl⟩
  .rcases hget j y hy with⟨h3,h4⟩|⟨rfl,rfl⟩
   .exact hi.apart i j x y h1 h3 lx ly b hb hb'
   grind
  grind
 .intro b hb hno;exact hs'.keep b hb λho=>hno ⟨id,_,hid,live1,own0 b ho⟩
 .intro b hb hF;rcases hF with hF|hF
  .rcases hs'.newF b hb hF with h|h
   .simp_all
   .exact .inr ⟨id,_,hid,live1,own0 b h⟩
  .exact .inr ⟨id,_,hid,live1,own0 b (hs'.newB b hb hF)⟩
 .rintro b hb ⟨i,x,hx,lx,hB⟩;rcases hget i x hx with⟨h1,h2⟩|⟨rfl,rfl⟩
  .exact⟨i,x,h1,lx,hB⟩
  .cases lx
def GD(P:Program) (k:Nat) (pre post:List D) (S:Nat) (l:List D) (o:D):Prop:=∀m id Ma,m[id]?=some (.live S Ma l)->CallT P k (pre++.own id Ma::post) m λd m'=>d=o/\m'=m.set id .gone
def CR(P:Program) (k:Nat) (pre post:List D) (S:Nat) (l l':List D) (o:D):Prop:=∀m id Ma,m[id]?=some (.live S Ma l)->CallT P k (pre++.own id Ma::post) m λd m'=>d=o/\m'=m.set id (.live S Ma l')
theorem GD.at{k:Nat}{F:Fun}{pre post:List D}{S:Nat}{l:List D}{o:D}(n:Nat) (hF:rv P k=some F) (hname:((P.funcs[k]?).map λfn=>fn.name == "runtime.NumGoroutine")=some false)
 (hpre:ja pre=true) (hpost:ja post=true) (hl:ja l=true) (hn:F.ntmps=(pre++.own 0 0::post).length+n)
 (h:T P 0 F.code (oH F.results o) ⟨(pre++.own 0 0::post)++Tm.ds n [],[.live S 0 l]⟩):GD P k pre post S l o:=by
 intro m id Ma hm;refine w5 hm hpre hpost hl (iS hF hname ?_);rw[hn,Zae,←XB];refine T.uS (h.mono ?_);have key:∀(e:Exit) (s:St),(∀s',wz F.results (λd m'=>Sbs [] m' [d] [o]) e s' = ∃ds,Cb s' F.results=some ds/\Sbs [] s'.m [Kn ds] [o])->(∃S,Tells 0 s S/\∃ds,Cb S F.results=some ds/\Sbs [] S.m [Kn ds] [o])->rK 0 (wz F.results λd m'=>Sbs [] m' [d] [o]) e s:=by
  intro e s he ⟨S,h1,h2⟩ G w a hN hr;obtain⟨G',h3,h4⟩:=Qq h1 hN hr
  grind
 intro e s hs
 cases e with
 |normal=>exact key _ s (λ_=>rfl) hs
 |ret=>exact key _ s (λ_=>rfl) hs
 |_=>exact(hs:False).elim
theorem qO{k id S Ma:Nat}{pre post l ds:List D}{o:D}{m:List Ent}{f:D->List Ent->Prop}(h:GD P k pre post S l o) (hds:ds=pre++.own id Ma::post) (hm:m[id]?=some (.live S Ma l)) (hf:f o (m.set id .gone)):af P k ds m f:=by
 subst hds;exact Ub (h m id Ma hm) hf
theorem MW{k id S Ma:Nat}{pre post l l' ds:List D}{o:D}{m:List Ent}{f:D->List Ent->Prop}(h:CR P k pre post S l l' o) (hds:ds=pre++.own id Ma::post) (hm:m[id]?=some (.live S Ma l)) (hf:f o (m.set id (.live S Ma l'))):af P k ds m f:=by
 subst hds;exact Ub (h m id Ma hm) hf
theorem lI{k:Nat}{vs:List Value}{v:Value}(hE:Enters P k) (h:∀w,Calls P k vs.toArray w λe w'=>e=.returned v/\w'=w):Den P k (vs.map .v) (.v v):=by
 refine λm=>⟨hE,λG w us hv hi=>?_⟩;have:∀(vs us:List Value),VsRel G w (vs.map .v) us->us=vs:=by
  intro vs
  induction vs with
  |nil=>intro us h;simpa [VsRel] using h
  |cons x l ih=>
   intro us h;simp only[Bad,VsRel,VRel]at h
   grind
 obtain rfl:=this vs us hv;refine(h w).mono ?_;rintro e w' ⟨rfl,rfl⟩;exact⟨_,_,_,G,rfl,⟨rfl,rfl⟩,by simp[VRel],hi,Step.refl _ _ _⟩
open Go.Sort
variable {P:Program}
def eI(n:Int):D:=.v (.int .i64 n)
theorem LG{G:Gh}{w:World}{b:Nat}:∀{zs:List Int}{off:Nat},Ua G w b 1 (zs.map eI) off->∀j (h:j<zs.length),w.cell? ⟨b,off+j,none⟩=some (.int .i64 zs[j])
 |[],_,_,j,h=>absurd h (lag j)
 |z::zs,off,hr,j,h=>by
  simp only[Bad,Ua]at hr;obtain⟨⟨u,h1,h2,h3⟩,h4⟩:=hr;simp only[eI,VRel]at h1;subst h1
  cases j with
  |zero=>exact(h3 0 (.int .i64 z) rfl).2
  |succ j=>
   have:=LG h4 j (by simp_all)
   grind
theorem NN{G:Gh}{w:World}{b:Nat}:∀{zs:List Int}{off:Nat},(∀j (h:j<zs.length),w.cell? ⟨b,off+j,none⟩=some (.int .i64 zs[j]))->Ua G w b 1 (zs.map eI) off
 |[],_,_=>by simp[Ua]
 |z::zs,off,hr=>by
  simp only[Bad,Ua];refine⟨⟨.int .i64 z,by simp[eI,VRel],rfl,?_⟩,NN λj h=>?_⟩
  .intro j c hc
   cases j with
   |zero=>
    have:c=.int .i64 z:=by grind[Value.cells]
    subst this;exact⟨rfl,hr 0 (Jag _)⟩
   |succ j=>grind[Value.cells]
  .have:=hr (j+1) (by simp_all)
   grind
theorem holds_of{w:World}{b off:Nat}{cs:Array Value}{T:TypeId}{zs:List Int}(hb:w.heap[b]?=some (.cells cs T (0,0))) (h:∀j (h:j<zs.length),w.cell? ⟨b,off+j,none⟩=some (.int .i64 zs[j])):Holds (Value.int .i64) w b off zs.toArray:=by
 intro j hj
 grind[World.frozen?]
theorem dP{w:World}{b off:Nat}{cs:Array Value}{T:TypeId}{ys:List Int}{n:Nat}{os:Array Obj}(hb:w.heap[b]?=some (.cells cs T (0,0))) (hlen:off+ys.length<=cs.size) {w':World}(hw:w'=grow (putRow (Value.int .i64) (Sort.ahead w n) b off ys.toArray) os) :
 w'.os=w.os/\w'.tape=w.tape/\w'.output=w.output/\w.heap.size<=w'.heap.size/\(∀k,k<w.heap.size->k≠b->w'.heap[k]?=w.heap[k]?)/\
  w'.heap[b]?=some (.cells (putCells (Value.int .i64) off ys.toArray cs) T (0,0))/\∀j (h:j<ys.length),w'.cell? ⟨b,off+j,none⟩=some (.int .i64 ys[j]):=by
 subst hw;have hbs:b<w.heap.size:=by
  grind
 have hheap:(grow (putRow (Value.int .i64) (Sort.ahead w n) b off ys.toArray) os).heap=w.heap.modify b (onCells (putCells (Value.int .i64) off ys.toArray))++os:=rfl;have hbb:(grow (putRow (Value.int .i64) (Sort.ahead w n) b off ys.toArray) os).heap[b]?=some (.cells (putCells (Value.int .i64) off ys.toArray cs) T (0,0)):=by
  rw[hheap,Array.getElem?_append_left (by simp_all),Array.getElem?_modify,if_pos rfl,hb];rfl
 refine⟨rfl,rfl,rfl,?_,?_,hbb,?_⟩
 all_goals grind[World.cell?,putCells]
theorem CM{k:FuncId}(hE:Enters P k) {id Ma:Nat}{m:List Ent}{zs ys:List Int}(hm:m[id]?=some (.live 1 Ma (zs.map eI))) (hlen:ys.length=zs.length)
 (h1:∀w b off cap,Holds (Value.int .i64) w b off zs.toArray->b<w.heap.size->Calls P k #[.slice (some ⟨b,off,none⟩) zs.length cap] w λe w'=>e=.returned (.tuple #[])/\∃n os,w'=grow (putRow (Value.int .i64) (Sort.ahead w n) b off ys.toArray) os)
 (h0:∀w cap,Calls P k #[.slice none 0 cap] w λe w'=>e=.returned (.tuple #[])/\w'=w) :
 CallT P k [.own id Ma] m λd m'=>d=.tup []/\m'=m.set id (.live 1 Ma (ys.map eI)):=by
 refine⟨hE,λG w vs hv hi=>?_⟩;obtain⟨eV,eS,eN,eC,eB⟩:=hi.ent id _ hm;simp only[VsRel,VRel]at hv;obtain⟨u,r,rfl,⟨a,n,c,rfl,g1,g2,g3⟩,rfl⟩:=hv;obtain⟨rfl,rfl,rfl⟩:=g3 eV;simp only[bae]at eN eC;rcases eB with⟨hB,hC⟩|⟨b,cs,T,hB,hF,hb,hc,hr⟩
 .have h00:=congrArg yag hC;dsimp only at h00;have hz:zs=[]:=gad (by omega);have hy:ys=[]:=gad (by omega);subst hz hy;rw[hB,eN];refine(h0 w _).mono ?_;rintro e w' ⟨rfl,rfl⟩;refine⟨_,_,_,G,rfl,⟨rfl,rfl⟩,by simp[VRel,VsRel],?_,?_⟩
  .have:m.set id (.live 1 Ma (([]:List Int).map eI))=m:=by
    apply rae
    grind
   simp_all
  .have:m.set id (.live 1 Ma (([]:List Int).map eI))=m:=by
    apply rae
    grind
   grind[Step.refl]
 .rw[hB,eN];have hbs:b<w.heap.size:=by
   grind
  refine(h1 w b _ _ (holds_of hb (LG hr)) hbs).mono ?_;rintro e w' ⟨rfl,n,os,hw⟩;obtain⟨p1,p2,p3,p4,p5,p6,p7⟩:=dP hb (by omega) hw;have hg:=Jf (w':=w') hi hm rfl (e':=.live 1 Ma (ys.map eI)) rfl (G.B id) Ma (G.N id) (G.C id) (.inr ⟨eV.symm,rfl,rfl,rfl⟩) p1 p2 p3 p4
   (λk hk hne=>p5 k hk (λh=>hne (by rw[hB,h]))) (λk hk=>.inl hk) (by
    refine⟨by simp[Gh.qf],by grind[Gh.qf],by grind[Gh.qf],by grind[Gh.qf],.inr ⟨b,_,T,by grind[Gh.qf],hF,p6,?_,NN (by grind[Gh.qf])⟩⟩
    grind[Gh.qf,putCells])
  exact⟨_,_,_,_,rfl,⟨rfl,rfl⟩,by simp[VRel,VsRel],hg.1,hg.2⟩
theorem BM{k:FuncId}(hE:Enters P k) {id Ma:Nat}{m:List Ent}{zs ys:List Int}(hm:m[id]?=some (.live 1 Ma (zs.map eI))) (hlen:ys.length<=zs.length)
 (h1:∀w b off cap,Holds (Value.int .i64) w b off zs.toArray->zs.length<=cap->Calls P k #[.slice (some ⟨b,off,none⟩) zs.length cap] w λe w'=>e=.returned (.slice (some ⟨b,off,none⟩) ys.length cap)/\∃n xs,xs.length+ys.length=zs.length/\w'=grow (putRow (Value.int .i64) (Sort.ahead w n) b off (ys++xs).toArray) #[])
 (h0:∀w cap,Calls P k #[.slice none 0 cap] w λe w'=>e=.returned (.slice none 0 cap)/\w'=w) :
 CallT P k [.own id Ma] m λd m'=>d=.own id (Ma+1)/\m'=m.set id (.live 1 (Ma+1) (ys.map eI)):=by
 refine⟨hE,λG w vs hv hi=>?_⟩;obtain⟨eV,eS,eN,eC,eB⟩:=hi.ent id _ hm;simp only[VsRel,VRel]at hv;obtain⟨u,r,rfl,⟨a,n,c,rfl,g1,g2,g3⟩,rfl⟩:=hv;obtain⟨rfl,rfl,rfl⟩:=g3 eV;simp only[bae]at eN eC;rcases eB with⟨hB,hC⟩|⟨b,cs,T,hB,hF,hb,hc,hr⟩
 .have h00:=congrArg yag hC;dsimp only at h00;have hz:zs=[]:=gad (by omega);have hy:ys=[]:=gad (by omega);subst hz hy;rw[hB,eN];refine(h0 w _).mono ?_;rintro e w' ⟨rfl,rfl⟩;have hg:=Jf (w':=w') hi hm rfl (e':=.live 1 (Ma+1) (([]:List Int).map eI)) rfl none (Ma+1) 0 (G.C id) (.inl (by omega)) rfl rfl rfl (cad _)
   (λk hk hne=>rfl) (λk hk=>by grind) (by
    refine⟨by simp[Gh.qf],by grind[Gh.qf],by simp[Gh.qf],by simp,.inl ⟨by simp[Gh.qf],by grind[Gh.qf]⟩⟩)
  refine⟨_,_,_,_,rfl,⟨rfl,rfl⟩,?_,hg.1,hg.2⟩;simp only[VRel];exact⟨_,_,_,rfl,g1,by simp[Gh.qf],λ_=>by simp[Gh.qf]⟩
 .rw[hB,eN];refine(h1 w b _ _ (holds_of hb (LG hr)) eC).mono ?_;rintro e w' ⟨rfl,n,xs,hx,hw⟩;obtain⟨p1,p2,p3,p4,p5,p6,p7⟩:=dP hb (by grind) hw;have hg:=Jf (w':=w') hi hm rfl (e':=.live 1 (Ma+1) (ys.map eI)) rfl (G.B id) (Ma+1) ys.length (G.C id) (.inl (by omega)) p1 p2 p3 p4
   (λk hk hne=>p5 k hk (λh=>hne (by rw[hB,h]))) (λk hk=>.inl hk) (by
    refine⟨by simp[Gh.qf],by grind[Gh.qf],by simp[Gh.qf],by grind[Gh.qf],.inr ⟨b,_,T,by grind[Gh.qf],hF,p6,?_,NN λj h=>?_⟩⟩
    all_goals grind[Gh.qf,putCells])
  refine⟨_,_,_,_,rfl,⟨rfl,rfl⟩,?_,hg.1,hg.2⟩;simp only[VRel];exact⟨_,_,_,rfl,g1,by simp[Gh.qf],λ_=>by grind[Gh.qf]⟩
theorem RS{k:FuncId}(hE:Enters P k) {zs ys:List Int}(hlen:ys.length=zs.length)
 (h1:∀w b off cap,Holds (Value.int .i64) w b off zs.toArray->b<w.heap.size->Calls P k #[.slice (some ⟨b,off,none⟩) zs.length cap] w λe w'=>e=.returned (.tuple #[])/\∃n os,w'=grow (putRow (Value.int .i64) (Sort.ahead w n) b off ys.toArray) os)
 (h0:∀w cap,Calls P k #[.slice none 0 cap] w λe w'=>e=.returned (.tuple #[])/\w'=w):CR P k [] [] 1 (zs.map eI) (ys.map eI) (.tup []):=
 λm id Ma hm=>CM hE hm hlen h1 h0
variable {P:Program} {N:Nat}
theorem VsRel.swap{G:Gh}{w:World}{l:List D}{us:List Value}{i:Nat}{d:D}{u:Value}(h:VsRel G w l us) (hu:us.getD i undef=u) (hi:i<l.length) (hd:VRel G w d u):VsRel G w (l.set i d) us:=by
 have:=h.set hd i;have hlen:=h.length;have he:us.set i u=us:=by
  apply rae
  grind
 simp_all
theorem T.Ot{i j d S:Nat}{l:List D}{neg:Bool}{s:St}{K:Exit->St->Prop}(hs:s.t[i]?=some (.sl S l)) (hl:ja l=true) (hj:j<s.t.length) (hij:i≠j) (hjd:j≠d) (hid:i≠d)
 (h:∀b,(l≠[]->b=neg)->K .normal ⟨(s.t.set j (.sl S l)).set d (.v (.bool b)),s.m⟩) :
 T P N (.TJ [.op (some j) none (.mv (.tmp i)),.op (some d) none (.Ot neg (.tmp j))]) K s:=by
 intro code hc G w a hN hr;have hi:i<s.t.length:=(oad.1 hs).1;obtain⟨u,hu,hv⟩:=hr.t.getElem hs;have hv':=hv;simp only[VRel]at hv';obtain⟨p,n,c,rfl,hn,hnc,hp⟩:=hv';have hgu:a.tmps.toList.getD i undef=.slice p n c:=by simp_all
 have hr1:Rel G w a ⟨s.t.set i (.v (.slice p n c)),s.m⟩:=⟨hr.t.swap hgu hi (by simp[VRel]),hr.inv,hr.defers⟩;have hT:T P N (.TJ [.op (some j) none (.mv (.tmp i)),.op (some d) none (.Ot neg (.tmp j))]) (λe s'=>e=.normal/\s'=⟨((s.t.set i (.v (.slice p n c))).set j (.v (.slice p n c))).set d (.v (.bool (p.isNone !=neg))),s.m⟩) ⟨s.t.set i (.v (.slice p n c)),s.m⟩:=by
  refine T.TJ ?_;have e1:((s.t.set i (.v (.slice p n c))).getD i .dead)=.v (.slice p n c):=by simp_all
  have e2:((s.t.set i (.v (.slice p n c))).set j (.v (.slice p n c))).getD j .dead=.v (.slice p n c):=by
   simp_all
  simp only[Aj,gate,fa,St.ev,e1,e2,St.put,Aad,lad,exists_and_left,exists_eq_left',and_assoc,true_and]
 refine Code.wp_mono ?_ (hT code hc G w a hN hr1);rintro e a' w' ⟨s',G',⟨rfl,rfl⟩,h2,h3⟩;have hsl:VRel G' w' (.sl S l) (.slice p n c):=VRel.free ⟨h3.F,h3.heap⟩ (by grind[la]) hv;refine⟨⟨(s.t.set j (.sl S l)).set d (.v (.bool (p.isNone !=neg))),s.m⟩,G',h _ ?_,⟨?_,h2.inv,h2.defers⟩,h3⟩
 .intro hne;rcases hp with hp|⟨b,off,rfl,-⟩
  all_goals simp_all
 .have h2t:=h2.t;have g:∀k,(((s.t.set i (.v (.slice p n c))).set j (.v (.slice p n c))).set d (.v (.bool (p.isNone !=neg))))[k]?=some (.v (.slice p n c))->a'.tmps.toList.getD k undef=.slice p n c:=by
   intro k hk;obtain⟨u,h1,h2⟩:=h2t.getElem hk;simp only[VRel]at h2
   simp_all
  have gi:=g i (by grind);have gj:=g j (by grind);have k1:=h2t.swap gi (by simp_all) hsl;have k2:=k1.swap gj (by simp_all) hsl;have:((((s.t.set i (.v (.slice p n c))).set j (.v (.slice p n c))).set d (.v (.bool (p.isNone !=neg)))).set i (.sl S l)).set j (.sl S l)=(s.t.set j (.sl S l)).set d (.v (.bool (p.isNone !=neg))):=by
   apply rae
   grind
  simp_all
theorem yZ{ρ:jq}{m:List Ent}{n:Nat}{d:D}(h:la d=true):Sq ρ m (n+1) d d:=by
 cases d with
 |v x=>exact rfl
 |agg a=>exact .inl ⟨rfl,by grind[la]⟩
 |tup a=>exact .inl ⟨rfl,by grind[la]⟩
 |sl S a=>exact⟨rfl,.inl ⟨rfl,by grind[la]⟩⟩
 |pt d=>exact .inl ⟨rfl,by grind[la]⟩
 |fn f a c=>
  simp only[la,Sac]at h;exact⟨rfl,.inl ⟨rfl,h.1⟩,.inl ⟨rfl,h.2⟩⟩
 |dead=>exact trivial
 |ifc t d=>exact⟨rfl,.inl ⟨rfl,by grind[la]⟩⟩
 |own=>grind[la]
 |ref=>grind[la]
 |view=>grind[la]
 |mp=>grind[la]
def B4(E:List (Nat×List Nat)) (P:Program) (ops:Array Oper) (o:Oper) (op:Op):Option I:=
 match op with
 |.binOp b t x y _=>
  match E.lookup t with
  |some ks=>some (.ceq (decide (b=.neq)) ks x y)
  |none=>xq P ops o op
 |_=>xq P ops o op
def PW(E:List (Nat×List Nat)) (P:Program) (ops:Array Oper) (o:Oper):Option RI:=
 match guardOf ops o.guard with
 |none=>none
 |some g=>
  match ZI P o.op with
  |some (f,args)=>some (.call o.dst g f args)
  |none=>(B4 E P ops o o.op).map λi=>.op o.dst g i
def SE(E:List (Nat×List Nat)) (P:Program) (ops:Array Oper):List Oper->Option (List RI)
 |[]=>some []
 |o::l=>
  match PW E P ops o,SE E P ops l with
  |some r,some rs=>some (r::rs)
  |_,_=>none
def iz(E:List (Nat×List Nat)) (P:Program):Code->Option C
 |.skip=>some .skip
 |.region _ ops false=>(SE E P ops ops.toList).map .TJ
 |.region _ ops true=>
  match SE E P ops ops.toList with
  |some rl=>
   if WB (zb ops) rl (oW (zb ops) rl.length)=true then some (.draw (oW (zb ops) rl.length) rl)
   else some (.any (LM (zb ops) rl.length (oW (zb ops) rl.length)) (oW (zb ops) rl.length) (zb ops) rl)
  |none=>none
 |.seq a b=>
  match iz E P a,iz E P b with
  |some x,some y=>some (.seq x y)
  |_,_=>none
 |.cond c a b=>
  match iz E P a,iz E P b with
  |some x,some y=>some (.cond c x y)
  |_,_=>none
 |.block id a=>(iz E P a).map (.block id)
 |.loop a=>(iz E P a).map .loop
 |.exit id=>some (.exit id)
 |.ret=>some .ret
 |.label _=>some .skip
 |.rangeFunc ..=>some .stuck
 |_=>none
def A4(E:List (Nat×List Nat)) (P:Program) (f:FuncId):Option Fun:=
 match P.funcs[f]? with
 |some fn=>
  match fn.body,Qv P fn.results.toList with
  |some b,some r=>(iz E P b).map λc=>⟨fn.ntmps,r,c⟩
  |_,_=>none
 |none=>none
theorem u8l{n:Nat}{h:n<2 ^ 8}:(⟨⟨⟨n,h⟩⟩⟩:UInt8)=UInt8.ofNat n:=by
 apply UInt8.toBitVec_inj.1;simp only[BitVec.ofFin_eq_ofNat];rfl
theorem arl{l:List UInt8}:(⟨l⟩:Array UInt8)=l.toArray:=rfl
structure Kf (P:Program) (n:Nat) where
 F:Fun
 ok:rv P n=some F
 nm:((P.funcs[n]?).map λfn=>fn.name == "runtime.NumGoroutine")=some false
theorem Kf.o{P:Program}{n:Nat}(K:Kf P n):rv P n=some K.F/\((P.funcs[n]?).map λfn=>fn.name == "runtime.NumGoroutine")=some false:=⟨K.ok,K.nm⟩
abbrev Kf.of(E:List (Nat×List Nat)) {P:Program}{n:Nat}{F:Fun}(_:A4 E P n=some F:=by conv=>lhs;reduce;try simp only[Int.reduceOfNat,Int.reduceNegSucc,u8l,arl,UInt8.reduceOfNat]) (ok:rv P n=some F:=by kernel_rfl) (nm:((P.funcs[n]?).map λfn=>fn.name == "runtime.NumGoroutine")=some false:=by kernel_rfl):Kf P n:=⟨F,ok,nm⟩
theorem ss:type_of% @T.Yy:=@T.Yy
theorem rg:type_of% @T.rg:=@T.rg
theorem sr:type_of% @T.sr:=@T.sr
theorem cd:type_of% @T.cd:=@T.cd
theorem bk:type_of% @T.bk:=@T.bk
theorem sk:type_of% @T.skip:=@T.skip
theorem xt:type_of% @T.exit:=@T.exit
theorem ay:type_of% @T.ay:=@T.ay
theorem dy:type_of% @T.dy:=@T.dy
theorem ao:type_of% @T.ao:=@T.ao
theorem tl:type_of% @T.ZG:=@T.ZG
theorem cq:type_of% @kE:=@kE
theorem lq:type_of% @YI:=@YI
theorem bs:type_of% @Ln:=@Ln
theorem lc:type_of% @T.UT:=@T.UT
theorem tj:type_of% @T.join:=@T.join
theorem lv:type_of% @JE:=@JE
theorem cv:type_of% @KE:=@KE
section
variable {P:Program} {N:Nat}
theorem jn{X:Type}{a b:C}{K:Exit->St->Prop}{s:St} [StbC N K] (S:X->St) {o:Option X}{β:Type}{f:X->Option β}{r:β}(h:o.bind f=some r) (ha:∀z,o=some z->Tm.T P N a (KJ N K S (.inl z:X⊕Unit)) s) (hb:∀z,o=some z->f z=some r->Tm.T P N b K (S z)):Tm.T P N (.seq a b) K s:=by
 obtain⟨z,h1,h2⟩:=Ln h;refine T.join (R:=Unit) S (.inl z) (ha z h1) ?_;rintro _ ⟨⟩;exact hb z h1 h2
theorem gi{p q Y N:Prop} [Decidable q] {α:Type}{A B:Option α}{r:α}(h:(if q then A else B)=some r) (h1:q->A=some r->Y) (h2:¬q->B=some r->N) (hpq:p=q:=by rfl):gP p Y N:=gP.ite h (iff_of_eq hpq) h1 h2
theorem rt:type_of% @T.ret:=@T.ret
theorem er:type_of% @nn:=@nn
end
theorem eT{α:Type} [BEq α] [LawfulBEq α] {a b:α}(h:a=b):(a==b)=true:=beq_iff_eq.2 h
theorem eF{α:Type} [BEq α] [LawfulBEq α] {a b:α}(h:¬a=b):(a==b)=false:=beq_eq_false_iff_ne.2 h
theorem eD{α:Type} [BEq α] [LawfulBEq α] {a b:α}(h:¬ ¬a=b):(a==b)=true:=beq_iff_eq.2 (qad.1 h)
theorem nT{α:Type} [BEq α] [LawfulBEq α] {a b:α}(h:¬a=b):(a !=b)=true:=bne_iff_ne.2 h
theorem nF{α:Type} [BEq α] [LawfulBEq α] {a b:α}(h:a=b):(a !=b)=false:=by simpa using h
theorem nD{α:Type} [BEq α] [LawfulBEq α] {a b:α}(h:¬ ¬a=b):(a !=b)=false:=nF (qad.1 h)
theorem bI{α β:Type}{l:List α}{i:Int}{g:α->Option β}{r:β}(h:(idx l i).bind g=some r):∃x,0<=i/\l[i.toNat]?=some x/\g x=some r:=by
 obtain⟨x,h1,h2⟩:=Ln h;obtain⟨h3,h4⟩:=Iaa h1;exact⟨x,h3,h4,h2⟩
theorem bO{α β:Type}{l:List α}{i:Int}{g:α->Option β}{r:β}(h:(idx l i).bind g=some r):∃x,0<=i/\l[i.toNat]?=some x/\i.toNat<l.length/\g x=some r:=by
 obtain⟨x,h1,h2⟩:=Ln h;obtain⟨h3,h4,h5⟩:=Jaa h1;exact⟨x,h3,h4,h5,h2⟩
section
variable {P:Program} {N:Nat}
theorem jm{X:Type}{a b:C}{K:Exit->St->Prop}{s:St} [StbC N K] {o:Option X}{β:Type}{f:X->Option β}{r:β}(h:o.bind f=some r) (S:X->St) (ha:∀z,o=some z->Tm.T P N a (KJ N K S (.inl z:X⊕Unit)) s) (hb:∀z,o=some z->f z=some r->Tm.T P N b K (S z)):Tm.T P N (.seq a b) K s:=jn S h ha hb
theorem lm{σ β ρ:Type}{id:Nat}{K:Exit->St->Prop} [hst:StbC N K] {x:C}{s:St}{step:σ->Option (Ex σ β ρ)}{x0:σ}{y:β⊕ρ}(hy:Tm.da step x0=some y) (S:σ->St) (B:β->St) (hs:Tells N s (S x0))
 (round:∀a z,step a=some z->(∀v,z=.ret v->y=.inr v)->Tm.T P N x (KL N id K S B z) (S a))
 (rest:∀b,y=.inl b->K .normal (B b)):Tm.T P N (.block id (.loop x)) K s:=T.UT S B step x0 hy hs round rest
end
abbrev ok(i:Nat):Option Nat×Nat×Nat:=(some i,0,0)
abbrev ov(i v:Nat):Option Nat×Nat×Nat:=(some i,v,0)
abbrev on(S:Nat):Option Nat×Nat×Nat:=(none,S,0)
theorem tq{N:Nat}(ρ:jq) {s S:St}(h:QC (Sq ρ s.m 9) s.t S.t/\PC ρ s.m ρ S.m) (hk:Jx ρ N=true:=by rfl) (h3:(ρ.filterMap (·.1)).Nodup:=by decide):Tells N s S:=Tells.q ρ hk h3 h
theorem fq:type_of% @rI:=@rI
theorem zr:type_of% (And.intro (And.intro @Ul @Zt) (And.intro @au @Nq)):=And.intro (And.intro @Ul @Zt) (And.intro @au @Nq)
class FrL (l:List D):Prop where
 h:ja l=true
instance:FrL []:=⟨rfl⟩
instance {α:Type}{e:α->D} [Fr e] {x:α}{l:List D} [FrL l]:FrL (e x::l):=⟨iD FrL.h⟩
theorem dk{P:Program}{k:Nat}{l:List D}{o:D}(n:Nat) (K:Kf P k) (h:T P 0 K.F.code (oH K.F.results o) ⟨l++Tm.ds n [],[]⟩) (hf:ja l=true:=by exact FrL.h) (hn:K.F.ntmps=l.length+n:=by rfl):Den P k l o:=Den.at n K.ok K.nm hf hn h
variable {P:Program}
def wP(P:Program) (k:Nat) (ds:List D) (S:Nat) (l:List D):Prop:=∀m,CallT P k ds m λd m'=>d=.own m.length 0/\m'=m++[.live S 0 l]
theorem y5{k S:Nat}{l ds:List D}(hds:ja ds=true) (hl:ja l=true) (h:CallT P k ds [] λd m'=>d=.own 0 0/\m'=[.live S 0 l]):wP P k ds S l:=by
 refine λm=>⟨h.1,λG w vs hv hi=>?_⟩;have h0:=h.2 (Gh.bare G.F) w vs (VsRel.free (G:=G) (G':=Gh.bare G.F) ⟨λ_ h=>h,λ_ _=>rfl⟩ hds hv) (JA hi.F (hi.gl.bare λ_ h=>h));refine h0.mono ?_;rintro e w' ⟨v,d,m',G',rfl,⟨rfl,rfl⟩,hvd,hi',hs⟩;obtain⟨fV,fS,fN,fC,fB⟩:=hi'.ent 0 _ rfl;have hGn:=hi.n;have noO:∀b,¬Ze (Gh.bare G.F) [] b:=λb=>Dy;have owned0:∀b,G'.B 0=some b->Ze G' [.live S 0 l] b:=λb hb=>⟨0,_,rfl,rfl,hb⟩;have newb:∀b,G'.B 0=some b->w.heap.size<=b:=λb hb=>by
  rcases Gae b w.heap.size with h|h
  .exact(noO b (hs.newB b h (owned0 b hb))).elim
  omega
 have hF:∀b,b<w.heap.size->G'.F b->G.F b:=λb hb hf=>by
  rcases hs.newF b hb hf with h|h
  .exact h
  simp_all
 have hsub:SubF G' w' ⟨G'.F,G.n+1,λi=>if i=G.n then G'.B 0 else G.B i,λi=>if i=G.n then 0 else G.V i,λi=>if i=G.n then G'.S 0 else G.S i,λi=>if i=G.n then G'.N 0 else G.N i,λi=>if i=G.n then G'.C 0 else G.C i⟩ w':=⟨λ_ h=>h,λ_ _=>rfl⟩;have hle:Le G w ⟨G'.F,G.n+1,λi=>if i=G.n then G'.B 0 else G.B i,λi=>if i=G.n then 0 else G.V i,λi=>if i=G.n then G'.S 0 else G.S i,λi=>if i=G.n then G'.N 0 else G.N i,λi=>if i=G.n then G'.C 0 else G.C i⟩ w':=by
  refine⟨λb hb=>hs.le.F b hb,λb hb=>hs.le.heap b hb,by simp,λi hi=>.inl ?_⟩
  grind
 have hget:∀i x,(m++[.live S 0 l])[i]?=some x->(m[i]?=some x/\i≠G.n)\/(i=G.n/\x=.live S 0 l):=by
  grind
 have olt:∀i x,m[i]?=some x->x.isLive=true->∀b,G.B i=some b->b<w.heap.size/\¬G.F b:=λi x hx hl b hb=>(hi.ent i x hx).lt hl hb;refine⟨v,_,_,⟨G'.F,G.n+1,λi=>if i=G.n then G'.B 0 else G.B i,λi=>if i=G.n then 0 else G.V i,λi=>if i=G.n then G'.S 0 else G.S i,λi=>if i=G.n then G'.N 0 else G.N i,λi=>if i=G.n then G'.C 0 else G.C i⟩,rfl,⟨rfl,rfl⟩,?_,⟨by simp_all,hi'.F,?_,?_,hi'.gl.bare λ_ h=>h⟩,⟨hle,hs.os,hs.tape,hs.output,hs.size,?_,?_,?_⟩⟩
 .simp only[VRel]at hvd⊢
  grind
 .intro i x hx;rcases hget i x hx with⟨h1,h2⟩|⟨rfl,rfl⟩
  .by_cases hlx:x.isLive=true
   .refine(hi.ent i x h1).mono hle (by grind) (λb hb=>?_) (λb hb _ hf=>?_)
    .exact hs.keep b (olt i x h1 hlx b hb).1 (noO b)
    grind
   .cases x with
    |gone=>trivial
    |_=>grind[Ent.isLive]
  .refine⟨by simp,by simp_all,by simp_all,by simp_all,?_⟩;rcases fB with h|⟨b,cs,T,h1,h2,h3,h4,h5⟩
   .simp_all
   .exact .inr ⟨b,cs,T,by simp_all,h2,h3,by simp_all,by simpa using Ua.free hsub rfl hl h5⟩
 .intro i j x y hx hy lx ly b hb hb';rcases hget i x hx with⟨h1,h2⟩|⟨rfl,rfl⟩<;>rcases hget j y hy with⟨h3,h4⟩|⟨rfl,rfl⟩
  .exact hi.apart i j x y h1 h3 lx ly b (by simp_all) (by simp_all)
  all_goals grind
 .intro b hb hno;exact hs.keep b hb (noO b)
 .simp_all
 .rintro b hb ⟨i,x,hx,lx,hB⟩;rcases hget i x hx with⟨h1,h2⟩|⟨rfl,rfl⟩
  .exact⟨i,x,h1,lx,by simp_all⟩
  grind
theorem wP.den{k S:Nat}{l ds:List D}(hds:ja ds=true) (hl:ja l=true) (h:wP P k ds S l):Den P k ds (.sl S l):=by
 refine LK hds ((h []).mono ?_);rintro d m' ⟨rfl,rfl⟩;exact .Ye (by simp) rfl (Sbs.free hl) .nil
theorem MK{k:Nat}{ds:List D}{R:D->List Ent->Prop}{d2:D}{m2:List Ent}(h:CallT P k ds [] R) (ht:∀d m',R d m'->Tells 0 ⟨[d],m'⟩ ⟨[d2],m2⟩):CallT P k ds [] λd m'=>d=d2/\m'=m2:=by
 refine⟨h.1,λG w vs hv hi=>(h.2 G w vs hv hi).mono ?_⟩;rintro e w' ⟨v,d,m',G',rfl,hR,hvd,hi',hs⟩;have hr:Rel G' w' { tmps:=#[v],defers:=[] } ⟨[d],m'⟩:=⟨by simp only[VsRel];simp_all,hi',rfl⟩;obtain⟨G'',h3,h4⟩:=Qq (ht d m' hR) (Sad _) hr;have hT:=h3.t;simp only[VsRel]at hT;obtain⟨u,us,he,h1,_⟩:=hT;injection he with he _;subst he;have h5:=(hs.TV (Sad _)).trans h4;have h0:0=G.n:=by rw[hi.n];rfl
 rw[h0]at h5;exact⟨_,d2,m2,G'',rfl,⟨rfl,rfl⟩,h1,h3.inv,h5.toStep⟩
def Q2(rs:List RV) (S:Nat) (l:List D) (e:Exit) (s:St):Prop:=
 match e with
 |.normal=>∃S',Tells 0 s S'/\∃ds,Cb S' rs=some ds/\Tells 0 ⟨[Kn ds],S'.m⟩ ⟨[.own 0 0],[.live S 0 l]⟩
 |.ret=>∃S',Tells 0 s S'/\∃ds,Cb S' rs=some ds/\Tells 0 ⟨[Kn ds],S'.m⟩ ⟨[.own 0 0],[.live S 0 l]⟩
 |_=>False
def X4(r:Option (List D)) (m:List Ent) (S:Nat) (l:List D):Prop:=∃ds,r=some ds/\Tells 0 ⟨[Kn ds],m⟩ ⟨[.own 0 0],[.live S 0 l]⟩
theorem w9{rs:List RV}{S:Nat}{l:List D}{s:St}(h:X4 (Cb s rs) s.m S l):Q2 rs S l .ret s:=by
 obtain⟨ds,h1,h2⟩:=h;exact⟨s,.refl s,ds,h1,h2⟩
theorem B9{ds:List D}{m:List Ent}{S:Nat}{l:List D}:X4 (some ds) m S l=Tells 0 ⟨[Kn ds],m⟩ ⟨[.own 0 0],[.live S 0 l]⟩:=by simp[X4]
instance {rs:List RV}{S:Nat}{l:List D}:StbC 0 (Q2 rs S l):=⟨by
 rintro s S' h ⟨S1,h1,h2⟩;exact⟨S1,h.trans h1,h2⟩⟩
theorem wP.at{k S:Nat}{F:Fun}{ds l:List D}(n:Nat) (hF:rv P k=some F) (hname:((P.funcs[k]?).map λfn=>fn.name == "runtime.NumGoroutine")=some false)
 (hds:ja ds=true) (hl:ja l=true) (hn:F.ntmps=ds.length+n) (h:T P 0 F.code (Q2 F.results S l) ⟨ds++Tm.ds n [],[]⟩):wP P k ds S l:=by
 refine y5 hds hl (MK (R:=λd m'=>Tells 0 ⟨[d],m'⟩ ⟨[.own 0 0],[.live S 0 l]⟩) (Oj hF hname ?_) λ_ _ h=>h);rw[hn,Zae,←XB];refine T.uS (h.mono ?_);have key:∀(e:Exit) (s:St),(∀s',wz F.results (λd m'=>Tells 0 ⟨[d],m'⟩ ⟨[.own 0 0],[.live S 0 l]⟩) e s' = ∃ds,Cb s' F.results=some ds/\Tells 0 ⟨[Kn ds],s'.m⟩ ⟨[.own 0 0],[.live S 0 l]⟩)->(∃S',Tells 0 s S'/\∃ds,Cb S' F.results=some ds/\Tells 0 ⟨[Kn ds],S'.m⟩ ⟨[.own 0 0],[.live S 0 l]⟩)->rK 0 (wz F.results λd m'=>Tells 0 ⟨[d],m'⟩ ⟨[.own 0 0],[.live S 0 l]⟩) e s:=by
  intro e s he ⟨S,h1,h2⟩ G w a hN hr;obtain⟨G',h3,h4⟩:=Qq h1 hN hr
  grind
 intro e s hs
 cases e with
 |normal=>exact key _ s (λ_=>rfl) hs
 |ret=>exact key _ s (λ_=>rfl) hs
 |_=>exact(hs:False).elim
theorem callX_O{k S:Nat}{ds ds' l:List D}{m:List Ent}{f:D->List Ent->Prop}(h:wP P k ds' S l) (hf:f (.own m.length 0) (m++[.live S 0 l])) (hs:sa ds ds'):af P k ds m f:=
 Ub (LP hs (h m)) hf
inductive Q where
 |p (n:Nat)
 |k (n:Nat)
 |s (d:D)
 |y (i:Nat)
 |g (q:List Q)
inductive M1 where
 |o (j:Nat)
 |O (j:Nat)
 |H (j:Nat) (q:List Q)
 |C (j:Nat) (l:List D)
 |c (j:Nat) (l:List D)
 |n (S:Nat) (l:List D)
 |h (j:Nat) (q:List Q)
 |m (j:Nat) (l:List (Value×D))
structure Ed where
 q:List Q
 m:List M1
inductive Hi:Type 1 where
 |o
 |b (l r:Hi)
 |z (n:Nat) (x:Hi)
 |t (ρ:jq)
 |a (ps:List (List Nat)) (x:Hi)
 |g (ps:List (List Nat)) (pl:List (Option Nat)) (x:Hi)
 |f (S:Ed) (ρ:jq) (x:Hi)
 |d (M:List M1) (ρ:jq) (x:Hi)
 |j {X:Type} (n:Nat) (S:X->Ed) (l r:Hi)
 |e {X:Type} (n:Nat) (S:X->Ed) (l r:Hi)
 |l {σ β:Type} (n m:Nat) (S:σ->Ed) (B:β->Ed) (ρ:jq) (x y:Hi)
 |u {σ:Type} (n:Nat) (S:σ->Ed) (ρ:jq) (x:Hi)
 |i {X:Type} {P:Program} {k:Nat} (K:Kf P k) (n w:Nat) (S:X->Ed) (x y:Hi)
 |c {P:Program} {k:Nat} (K:Kf P k) (w:Nat) (x:Hi)
 |v (x:Hi)
def Tn:List M1->Nat->Nat->Option (Nat×Bool)
 |[],_,_=>none
 |.o k::l,j,i=>bif k==j then some (i,false)else Tn l j (i+1)
 |.c k _::l,j,i=>bif k==j then some (i,false)else Tn l j (i+1)
 |.h k _::l,j,i=>bif k==j then some (i,false)else Tn l j (i+1)
 |.O k::l,j,i=>bif k==j then some (i,true)else Tn l j (i+1)
 |.H k _::l,j,i=>bif k==j then some (i,true)else Tn l j (i+1)
 |.C k _::l,j,i=>bif k==j then some (i,true)else Tn l j (i+1)
 |.n _ _::l,j,i=>Tn l j (i+1)
 |.m k _::l,j,i=>bif k==j then some (i,false)else Tn l j (i+1)
def E8(o:Option (Nat×Bool)) (v:Nat) (f:Nat->Nat->D):D:=match o with|some (i,b)=>f i (bif b then v else 0)|none=>.dead
mutual
def ot(ks:List M1) (m:List Ent):Nat->D->D
 |n+1,.own j v=>X1 ks m n v m[j]? (Tn ks j 0)
 |n+1,.ref j v x s=>Y1 ks m n v x s m[j]? (Tn ks j 0)
 |_+1,.view j v lo k=>E8 (Tn ks j 0) v λi v=>.view i v lo k
 |_+1,.mp j=>E8 (Tn ks j 0) 0 λi _=>.mp i
 |n+1,.agg l=>.agg (Ru ks m n l)
 |n+1,.tup l=>.tup (Ru ks m n l)
 |n+1,.fn k a c=>.fn k (Ru ks m n a) (Ru ks m n c)
 |n+1,.pt d=>.pt (ot ks m n d)
 |_,d=>d
def X1(ks:List M1) (m:List Ent) (n v:Nat):Option Ent->Option (Nat×Bool)->D
 |_,some (i,b)=>.own i (bif b then v else 0)
 |some (.live S _ l),none=>.sl S (Ru ks m n l)
 |_,none=>.dead
def Y1(ks:List M1) (m:List Ent) (n v x s:Nat):Option Ent->Option (Nat×Bool)->D
 |_,some (i,b)=>.ref i (bif b then v else 0) x s
 |some (.live _ _ (d::_)),none=>.pt (ot ks m n d)
 |_,none=>.dead
def Ru(ks:List M1) (m:List Ent) (n:Nat):List D->List D
 |[]=>[]
 |d::l=>ot ks m n d::Ru ks m n l
end
mutual
theorem KG(ks:List M1) (m:List Ent):∀(n:Nat) (d:D),la d=true->ot ks m n d=d
 |n+1,.agg l,h=>by simp only[la]at h;simp only[ot,we ks m n l h]
 |n+1,.tup l,h=>by simp only[la]at h;simp only[ot,we ks m n l h]
 |n+1,.fn k a c,h=>by simp only[la,Sac]at h;simp only[ot,we ks m n a h.1,we ks m n c h.2]
 |n+1,.pt d,h=>by simp only[la]at h;simp only[ot,KG ks m n d h]
 |_,.own _ _,h=>by grind[la]
 |_,.view _ _ _ _,h=>by grind[la]
 |_,.ref _ _ _ _,h=>by grind[la]
 |_,.mp _,h=>by grind[la]
 |n,.v _,_=>by grind[ot]
 |n,.sl _ _,_=>by grind[ot]
 |n,.ifc _ _,_=>by grind[ot]
 |n,.dead,_=>by grind[ot]
 |0,.agg _,_=>by simp only[ot]
 |0,.tup _,_=>by simp only[ot]
 |0,.fn _ _ _,_=>by simp only[ot]
 |0,.pt _,_=>by simp only[ot]
theorem we(ks:List M1) (m:List Ent) (n:Nat):∀l:List D,ja l=true->Ru ks m n l=l
 |[],_=>by grind[Ru]
 |d::l,h=>by simp only[ja,Sac]at h;simp only[Ru,KG ks m n d h.1,we ks m n l h.2]
end
def AL:List D->List D
 |[]=>[]
 |_::l=>.dead::AL l
def Wv(ks:List M1) (m:List Ent) (u:List D):List Q->List D->List D
 |[],l=>AL l
 |_::_,[]=>[]
 |.p 0::q,l=>Wv ks m u q l
 |.p (n+1)::q,d::l=>ot ks m 9 d::Wv ks m u (.p n::q) l
 |.k 0::q,l=>Wv ks m u q l
 |.k (n+1)::q,d::l=>.dead::Wv ks m u (.k n::q) l
 |.s e::q,d::l=>e::Wv ks m u q l
 |.y i::q,_::l=>ot ks m 9 (u.getD i .dead)::Wv ks m u q l
 |.g r::q,.agg b::l=>.agg (Wv ks m u r b)::Wv ks m u q l
 |.g _::q,d::l=>d::Wv ks m u q l
def eO(ks:List M1) (m:List Ent):Option Ent->Ent
 |some (.live S v l)=>.live S 0 (Ru ks m 9 l)
 |some e=>e
 |none=>.gone
def eX(b:List D):Option Ent->Ent
 |some (.live S v _)=>.live S v b
 |some e=>e
 |none=>.gone
def eV(ks:List M1) (m:List Ent):Option Ent->Ent
 |some (.live S v l)=>.live S v (Ru ks m 9 l)
 |some e=>e
 |none=>.gone
def eW(ks:List M1) (m:List Ent) (q:List Q):Option Ent->Ent
 |some (.live S v l)=>.live S v (Wv ks m [] q l)
 |some e=>e
 |none=>.gone
def eC(b:List D):Option Ent->Ent
 |some (.live S v _)=>.live S 0 b
 |some e=>e
 |none=>.gone
def eH(ks:List M1) (m:List Ent) (q:List Q):Option Ent->Ent
 |some (.live S v l)=>.live S 0 (Wv ks m [] q l)
 |some e=>e
 |none=>.gone
def mW(ks:List M1) (m:List Ent):M1->Ent
 |.o j=>eO ks m m[j]?
 |.c j l=>eC l m[j]?
 |.n S l=>.live S 0 l
 |.h j q=>eH ks m q m[j]?
 |.O j=>eV ks m m[j]?
 |.C j l=>eX l m[j]?
 |.H j q=>eW ks m q m[j]?
 |.m _ l=>.mp l
def A9(ks:List M1) (m:List Ent):List M1->List Ent
 |[]=>[]
 |x::l=>mW ks m x::A9 ks m l
def eFz(ks:List M1) (m:List Ent):Option Ent->Ent
 |some (.live S _ l)=>.live S 0 (Ru ks m 9 l)
 |some e=>e
 |none=>.gone
def eGz(ks:List M1) (m:List Ent):Option Ent->Ent
 |some (.live S v l)=>.live S v (Ru ks m 9 l)
 |some e=>e
 |none=>.gone
def nW(ks:List M1) (m:List Ent):List M1->List Ent
 |[]=>[]
 |.o j::l=>eFz ks m m[j]?::nW ks m l
 |.O j::l=>eGz ks m m[j]?::nW ks m l
 |_::l=>nW ks m l
def fd(ks:List M1) (s:St):St:=⟨Ru ks s.m 9 s.t,nW ks s.m ks⟩
def ed(E:Ed) (s:St):St:=⟨Wv E.m s.m s.t E.q s.t,A9 E.m s.m E.m⟩
section
variable {ks l:List M1} {i j k n S:Nat} {d e:D} {b c u:List D} {q:List Q} {t:List D} {m r:List Ent} {f:Nat->Nat->D} {x:M1} {v lo y:Nat} {a:Ent}
theorem d_ed:ed ⟨q,ks⟩ ⟨t,m⟩=⟨Wv ks m t q t,A9 ks m ks⟩:=Mac rfl rfl
theorem DS:Tn [] j i=none:=Mac rfl rfl
theorem ES:Tn (.o k::l) j i=bif k==j then some (i,false)else Tn l j (i+1):=Mac rfl rfl
theorem JS:Tn (.O k::l) j i=bif k==j then some (i,true)else Tn l j (i+1):=Mac rfl rfl
theorem LS:Tn (.H k q::l) j i=bif k==j then some (i,true)else Tn l j (i+1):=Mac rfl rfl
theorem MS:Tn (.C k b::l) j i=bif k==j then some (i,true)else Tn l j (i+1):=Mac rfl rfl
theorem GS:Tn (.c k b::l) j i=bif k==j then some (i,false)else Tn l j (i+1):=Mac rfl rfl
theorem HS:Tn (.h k q::l) j i=bif k==j then some (i,false)else Tn l j (i+1):=Mac rfl rfl
theorem IS:Tn (.n S b::l) j i=Tn l j (i+1):=Mac rfl rfl
theorem NS{a:List (Value×D)}:Tn (.m k a::l) j i=bif k==j then some (i,false)else Tn l j (i+1):=Mac rfl rfl
theorem d_e8{a:List (Value×D)}:mW ks m (.m j a)=.mp a:=Mac rfl rfl
theorem d_f7{a:List (Value×D)}:eO ks m (some (.mp a))=.mp a:=Mac rfl rfl
theorem waa{a:List (Value×D)}:eFz ks m (some (.mp a))=.mp a:=Mac rfl rfl
theorem H4:E8 (some (i,true)) v f=f i v:=Mac rfl rfl
theorem I4:E8 (some (i,false)) v f=f i 0:=Mac rfl rfl
theorem G4:E8 none v f=.dead:=Mac rfl rfl
theorem d_e1:mW ks m (.o j)=eO ks m m[j]?:=Mac rfl rfl
theorem d_f1:eO ks m (some (.live S v b))=.live S 0 (Ru ks m 9 b):=Mac rfl rfl
theorem d_f2:eC c (some (.live S v b))=.live S 0 c:=Mac rfl rfl
theorem d_f3:eH ks m q (some (.live S v b))=.live S 0 (Wv ks m [] q b):=Mac rfl rfl
theorem d_e2:mW ks m (.c j c)=eC c m[j]?:=Mac rfl rfl
theorem d_e3:mW ks m (.n S b)=.live S 0 b:=Mac rfl rfl
theorem d_e5:mW ks m (.O j)=eV ks m m[j]?:=Mac rfl rfl
theorem d_e6:mW ks m (.H j q)=eW ks m q m[j]?:=Mac rfl rfl
theorem d_f4:eV ks m (some (.live S v b))=.live S v (Ru ks m 9 b):=Mac rfl rfl
theorem d_f5:eW ks m q (some (.live S v b))=.live S v (Wv ks m [] q b):=Mac rfl rfl
theorem d_e7:mW ks m (.C j c)=eX c m[j]?:=Mac rfl rfl
theorem d_f6:eX c (some (.live S v b))=.live S v c:=Mac rfl rfl
theorem d_e4:mW ks m (.h j q)=eH ks m q m[j]?:=Mac rfl rfl
theorem d_m0:A9 ks m []=[]:=Mac rfl rfl
theorem d_m1:A9 ks m (x::l)=mW ks m x::A9 ks m l:=Mac rfl rfl
theorem d_k0:AL []=[]:=Mac rfl rfl
theorem d_k1:AL (d::b)=.dead::AL b:=Mac rfl rfl
theorem d_q0:Wv ks m u [] b=AL b:=by grind[Wv]
theorem d_q1:Wv ks m u (.p 0::q) b=Wv ks m u q b:=by cases b<;>cases q<;>simp only[Wv,AL]
theorem d_q2:Wv ks m u (.p (n+1)::q) (d::b)=ot ks m 9 d::Wv ks m u (.p n::q) b:=by grind[Wv]
theorem d_q3:Wv ks m u (.k 0::q) b=Wv ks m u q b:=by cases b<;>cases q<;>simp only[Wv,AL]
theorem d_q4:Wv ks m u (.k (n+1)::q) (d::b)=.dead::Wv ks m u (.k n::q) b:=by grind[Wv]
theorem d_q5:Wv ks m u (.s e::q) (d::b)=e::Wv ks m u q b:=by grind[Wv]
theorem d_q6{g:List Q}:Wv ks m u (.g g::q) (.agg c::b)=.agg (Wv ks m u g c)::Wv ks m u q b:=by grind[Wv]
theorem d_q7{i:Nat}:Wv ks m u (.y i::q) (d::b)=ot ks m 9 (u.getD i .dead)::Wv ks m u q b:=by grind[Wv]
theorem xaa:fd ks ⟨t,m⟩=⟨Ru ks m 9 t,nW ks m ks⟩:=Mac rfl rfl
theorem wT:ot ks m (n+1) (.own j v)=X1 ks m n v m[j]? (Tn ks j 0):=by grind[ot]
theorem xT:ot ks m (n+1) (.ref j v y k)=Y1 ks m n v y k m[j]? (Tn ks j 0):=by grind[ot]
theorem nN:ot ks m (n+1) (.view j v lo k)=E8 (Tn ks j 0) v λi v=>.view i v lo k:=by grind[ot]
theorem J5:ot ks m (n+1) (.mp j)=E8 (Tn ks j 0) 0 λi _=>.mp i:=by grind[ot]
theorem qT:ot ks m (n+1) (.agg b)=.agg (Ru ks m n b):=by grind[ot]
theorem AT:ot ks m (n+1) (.tup b)=.tup (Ru ks m n b):=by grind[ot]
theorem C5:ot ks m (n+1) (.fn k b c)=.fn k (Ru ks m n b) (Ru ks m n c):=by grind[ot]
theorem Q5:ot ks m (n+1) (.pt d)=.pt (ot ks m n d):=by grind[ot]
theorem g_v{x:Value}:ot ks m n (.v x)=.v x:=by grind[ot]
theorem V5:ot ks m n (.sl S b)=.sl S b:=by grind[ot]
theorem uT:ot ks m n (.ifc S d)=.ifc S d:=by grind[ot]
theorem lN:ot ks m n .dead=.dead:=by grind[ot]
theorem D5{α:Type}{e:α->D} [Fr e] {x:α}:ot ks m n (e x)=e x:=KG ks m n _ (Fr.h x)
theorem E5:Ru ks m n []=[]:=by grind[Ru]
theorem F5:Ru ks m n (d::b)=ot ks m n d::Ru ks m n b:=by grind[Ru]
theorem G5{α:Type}{e:α->D} [Fr e] {x:List α}:Ru ks m n (x.map e)=x.map e:=we ks m n _ (Fr.l x)
theorem M5{o:Option Ent}:X1 ks m n v o (some (i,false))=.own i 0:=by simp_all[X1]
theorem N5{o:Option Ent}:X1 ks m n v o (some (i,true))=.own i v:=by simp_all[X1]
theorem O5:X1 ks m n v (some (.live S k b)) none=.sl S (Ru ks m n b):=by grind[X1]
theorem R5{o:Option Ent}:Y1 ks m n v y k o (some (i,false))=.ref i 0 y k:=by simp_all[Y1]
theorem S5{o:Option Ent}:Y1 ks m n v y k o (some (i,true))=.ref i v y k:=by simp_all[Y1]
theorem T5:Y1 ks m n v y k (some (.live S j (d::b))) none=.pt (ot ks m n d):=by grind[Y1]
theorem uaa:eFz ks m (some (.live S v b))=.live S 0 (Ru ks m 9 b):=Mac rfl rfl
theorem vaa:eGz ks m (some (.live S v b))=.live S v (Ru ks m 9 b):=Mac rfl rfl
theorem zaa:nW ks m []=[]:=Mac rfl rfl
theorem Aaa:nW ks m (.o j::l)=eFz ks m m[j]?::nW ks m l:=Mac rfl rfl
theorem Baa:nW ks m (.O j::l)=eGz ks m m[j]?::nW ks m l:=Mac rfl rfl
theorem D4{α:Type}{x y:α}:(bif true then x else y)=x:=Mac rfl rfl
theorem F4{α:Type}{x y:α}:(bif false then x else y)=y:=Mac rfl rfl
end
theorem zf:type_of% (And.intro (And.intro (And.intro (And.intro (And.intro (And.intro @xaa @wT) (And.intro @xT @nN)) (And.intro (And.intro @J5 @qT) (And.intro @AT @C5))) (And.intro (And.intro (And.intro @Q5 @g_v) (And.intro @V5 @uT)) (And.intro (And.intro @lN @D5) (And.intro @E5 @F5)))) (And.intro (And.intro (And.intro (And.intro @G5 @M5) (And.intro @N5 @O5)) (And.intro (And.intro @R5 @S5) (And.intro @T5 @uaa))) (And.intro (And.intro (And.intro @vaa @zaa) (And.intro (And.intro @Aaa (And.intro @NS @waa)) @Baa)) (And.intro (And.intro @DS @ES) (And.intro @GS @HS))))) (And.intro (And.intro (And.intro (And.intro @IS @JS) (And.intro @LS @MS)) (And.intro (And.intro @H4 @I4) (And.intro @G4 @D4))) (And.intro (And.intro @F4 @Mad.{0}) @aae.{0}))):=(And.intro (And.intro (And.intro (And.intro (And.intro (And.intro @xaa @wT) (And.intro @xT @nN)) (And.intro (And.intro @J5 @qT) (And.intro @AT @C5))) (And.intro (And.intro (And.intro @Q5 @g_v) (And.intro @V5 @uT)) (And.intro (And.intro @lN @D5) (And.intro @E5 @F5)))) (And.intro (And.intro (And.intro (And.intro @G5 @M5) (And.intro @N5 @O5)) (And.intro (And.intro @R5 @S5) (And.intro @T5 @uaa))) (And.intro (And.intro (And.intro @vaa @zaa) (And.intro (And.intro @Aaa (And.intro @NS @waa)) @Baa)) (And.intro (And.intro @DS @ES) (And.intro @GS @HS))))) (And.intro (And.intro (And.intro (And.intro @IS @JS) (And.intro @LS @MS)) (And.intro (And.intro @H4 @I4) (And.intro @G4 @D4))) (And.intro (And.intro @F4 @Mad.{0}) @aae.{0})))def zd:=(And.intro (And.intro (And.intro (And.intro (And.intro (And.intro (And.intro @d_ed @DS) (And.intro @ES @GS)) (And.intro (And.intro @HS @IS) (And.intro @JS @LS))) (And.intro (And.intro (And.intro @MS @H4) (And.intro @I4 @G4)) (And.intro (And.intro @d_e1 @d_e2) (And.intro @d_e3 @d_e4)))) (And.intro (And.intro (And.intro (And.intro @d_e5 @d_e6) (And.intro @d_e7 @d_f1)) (And.intro (And.intro @d_f2 @d_f3) (And.intro @d_f4 @d_f5))) (And.intro (And.intro (And.intro (And.intro @d_f6 (And.intro @NS (And.intro @d_e8 @d_f7))) @d_m0) (And.intro @d_m1 @d_k0)) (And.intro (And.intro @d_k1 @d_q0) (And.intro @d_q1 @d_q2))))) (And.intro (And.intro (And.intro (And.intro (And.intro @d_q3 @d_q4) (And.intro @d_q5 @d_q6)) (And.intro (And.intro @d_q7 @wT) (And.intro @xT @nN))) (And.intro (And.intro (And.intro @J5 @qT) (And.intro @AT @C5)) (And.intro (And.intro @Q5 @g_v) (And.intro @V5 @uT)))) (And.intro (And.intro (And.intro (And.intro @lN @D5) (And.intro @E5 @F5)) (And.intro (And.intro @G5 @M5) (And.intro @N5 @O5))) (And.intro (And.intro (And.intro @R5 @S5) (And.intro @T5 @Cad.{0})) (And.intro (And.intro @Pad.{0} @D4) (And.intro @F4 @Mad.{0})))))) @aae.{0})
class HiC:Type 1 where
 h:Hi
def Yi[i:HiC] (p:Prop):Prop:=p
structure Wh (n:Nat) (p:Prop):Prop where
 h:p
structure Lh (n:Nat) (p:Prop):Prop where
 h:p
def EQ(p:Prop):Prop:=p
theorem EQ.out{p:Prop}(h:EQ p):p:=h
structure Lk {α β:Type}(c:α->β) (z:β) (w:α) (p:Prop):Prop where
 l:∀v,z=c v->v=w
 k:p
theorem cN{p:Prop}(h:¬p):¬p:=h
class Con (p:Prop) (q:outParam Prop):Prop where
 h:p->q
class Enc (α:Type) (e:outParam (α->D)):Prop where
 h:True
section
variable {P:Program} {N:Nat} {h x:Hi} {a b:C} {K:Exit->St->Prop} {s:St}
theorem gj{X:Type}{n:Nat}{S:X->Ed}(g:@Yi ⟨.j n S h x⟩ (Tm.T P N (.seq a b) K s)):@Yi ⟨.j n S h x⟩ (Tm.T P N (.seq a b) K s):=g
theorem ge{X:Type}{n:Nat}{S:X->Ed}(g:@Yi ⟨.e n S h x⟩ (Tm.T P N (.seq a b) K s)):@Yi ⟨.e n S h x⟩ (Tm.T P N (.seq a b) K s):=g
theorem gq{p:Prop}{R1 R2:St->Prop}{s1 s2:St}(g:@Yi ⟨h⟩ (gP p (R1 s1) (R2 s2))):@Yi ⟨h⟩ (gQ p R1 s1 R2 s2):=g
theorem gy1{R:List (List Nat)->St->Prop}{fp:List (List Nat)}{p:List Nat}{d:Option Tmp}{i:I}(g:@Yi ⟨h⟩ (SQ R fp p d i s)):@Yi ⟨h⟩ (SQ R fp p d i s):=g
theorem gy2{R:List (List Nat)->St->Prop}{fp:List (List Nat)}{p:List Nat}{d:Option Tmp}{i:I}(g:@Yi ⟨h⟩ (M8 R fp p d i s)):@Yi ⟨h⟩ (M8 R fp p d i s):=g
theorem gy3{R:List (List Nat)->St->Prop}{fp:List (List Nat)}{p:List Nat}{k:FuncId}{d:Option Tmp}{i:List Operand}(g:@Yi ⟨h⟩ (rS P R fp p k d i s)):@Yi ⟨h⟩ (rS P R fp p k d i s):=g
theorem gy4{R:List (List Nat)->St->Prop}{fp:List (List Nat)}{p:List Nat}{d:Option Tmp}{i:List Operand}(g:@Yi ⟨h⟩ (S9 R fp p d i s)):@Yi ⟨h⟩ (S9 R fp p d i s):=g
theorem gy5{ps:List (List Nat)}{q:Nat}{l:List RI}{R:St->Prop}{fp:List (List Nat)}(g:@Yi ⟨h⟩ (Uu P ps q l R fp s)):@Yi ⟨h⟩ (Uu P ps q l R fp s):=g
theorem gg{p A B:Prop}(g:@Yi ⟨h⟩ (gP p A B)):@Yi ⟨h⟩ (gP p A B):=g
theorem gcd{c:Operand}(g:@Yi ⟨h⟩ (Tm.T P N (.cond c a b) K s)):@Yi ⟨h⟩ (Tm.T P N (.cond c a b) K s):=g
theorem gcx{k:Nat}{ds:List D}{m:List Ent}{f:D->List Ent->Prop}(g:@Yi ⟨h⟩ (af P k ds m f)):@Yi ⟨h⟩ (af P k ds m f):=g
theorem gcl{k:Nat}{ds:List D}{i:List Nat}{R:St->Prop}{d:Option Tmp}(g:@Yi ⟨h⟩ (Aw P k ds i R s d)):@Yi ⟨h⟩ (Aw P k ds i R s d):=g
theorem gl{σ β:Type}{n m:Nat}{S:σ->Ed}{B:β->Ed}{ρ:jq}{y:Hi}{id:Nat}(g:@Yi ⟨.l n m S B ρ x y⟩ (Tm.T P N (.block id (.loop a)) K s)):@Yi ⟨.l n m S B ρ x y⟩ (Tm.T P N (.block id (.loop a)) K s):=g
theorem gu{σ:Type}{n:Nat}{S:σ->Ed}{ρ:jq}{id:Nat}(g:@Yi ⟨.u n S ρ x⟩ (Tm.T P N (.block id (.loop a)) K s)):@Yi ⟨.u n S ρ x⟩ (Tm.T P N (.block id (.loop a)) K s):=g
theorem gf{E:Ed}{ρ:jq}{q:Prop}(g:@Yi ⟨.f E ρ x⟩ q):@Yi ⟨.f E ρ x⟩ q:=g
theorem ga{ps:List (List Nat)}{q:Prop}(g:@Yi ⟨.a ps x⟩ q):@Yi ⟨.a ps x⟩ q:=g
theorem gao{ps:List (List Nat)}{pl:List (Option Nat)}{q:Prop}(g:@Yi ⟨.g ps pl x⟩ q):@Yi ⟨.g ps pl x⟩ q:=g
theorem yss(g:@Yi ⟨h⟩ (Tm.T P N a (KS P N b K) s)):@Yi ⟨h⟩ (Tm.T P N (.seq a b) K s):=T.Yy g
theorem yz{n:Nat}(g:@Yi ⟨.z n h⟩ (Tm.T P N a (KS P N b K) s)):@Yi ⟨.z (n+1) h⟩ (Tm.T P N (.seq a b) K s):=T.Yy g
theorem yz0{p:Prop}(g:@Yi ⟨h⟩ p):@Yi ⟨.z 0 h⟩ p:=g
theorem yrg{l:List RI}(g:@Yi ⟨h⟩ (Zg P l (K .normal) s)):@Yi ⟨h⟩ (Tm.T P N (.TJ l) K s):=T.rg g
theorem ydy{q:Nat}{l:List RI}(hm:P.follows .mixedOrders=true) (g:@Yi ⟨h⟩ (Uu P [] q l (K .normal) [] s)):@Yi ⟨h⟩ (Tm.T P N (.draw q l) K s):=T.dy hm g
theorem yay{q:Nat}{l:List RI}{cuts:List Nat}{bs ps:List (List Nat)}(hm:P.follows .mixedOrders=true) (hok:Bu bs l q ps []=true) (g:@Yi ⟨h⟩ (Uu P ps q l (K .normal) [] s)):@Yi ⟨.a ps h⟩ (Tm.T P N (.any cuts q bs l) K s):=T.ay hm ps hok g
theorem yao{q:Nat}{l:List RI}{cuts:List Nat}{bs ps:List (List Nat)}{pl:List (Option Nat)}(hm:P.follows .mixedOrders=true) (hok:Bu bs l q ps pl=true) (hpl:Ls s.m pl=true) (g:@Yi ⟨h⟩ (Rg P pl ps q l (K .normal) [] s)):@Yi ⟨.g ps pl h⟩ (Tm.T P N (.any cuts q bs l) K s):=T.ao hm ps pl hok hpl g
theorem ysk(g:@Yi ⟨h⟩ (K .normal s)):@Yi ⟨h⟩ (Tm.T P N .skip K s):=T.skip g
theorem yxt{id:Nat}(g:@Yi ⟨h⟩ (K (.exit id) s)):@Yi ⟨h⟩ (Tm.T P N (.exit id) K s):=T.exit g
theorem ybk{id:Nat}(g:@Yi ⟨h⟩ (Tm.T P N a (KB id K) s)):@Yi ⟨h⟩ (Tm.T P N (.block id a) K s):=T.bk g
theorem ycd{c:Operand}{t:Bool}(ht:s.ev c=.v (.bool t)) (g:@Yi ⟨h⟩ (gP (t=true) (Tm.T P N a K s) (Tm.T P N b K s))):@Yi ⟨h⟩ (Tm.T P N (.cond c a b) K s):=T.cd ht g
theorem ygi{p q A' B':Prop} [Decidable q] {α:Type}{A B:Option α}{r:α}(h1:q->A=some r->@Yi ⟨h⟩ A') (h2:¬q->B=some r->@Yi ⟨x⟩ B') (hpq:p=q:=by rfl) (e:(if q then A else B)=some r):@Yi ⟨.b h x⟩ (gP p A' B'):=gP.ite e (iff_of_eq hpq) h1 h2
theorem ygo{p q A' B':Prop} [Decidable q] {α:Type}{A B:Option α}{r:α}(h1:q->A=some r->@Yi ⟨.o⟩ A') (h2:¬q->B=some r->@Yi ⟨.o⟩ B') (hpq:p=q:=by rfl) (e:(if q then A else B)=some r):@Yi ⟨.o⟩ (gP p A' B'):=gP.ite e (iff_of_eq hpq) h1 h2
theorem ygc{p q A' B':Prop} [Decidable q] {α:Type}{A B:Option α}{r:α}(h1:q->A=some r->@Yi ⟨h⟩ A') (h2:¬q->B=some r->@Yi ⟨x⟩ B') (hpq:p↔q) (e:(if q then A else B)=some r):@Yi ⟨.b h x⟩ (gP p A' B'):=gP.ite e hpq h1 h2
theorem ygoc{p q A' B':Prop} [Decidable q] {α:Type}{A B:Option α}{r:α}(h1:q->A=some r->@Yi ⟨.o⟩ A') (h2:¬q->B=some r->@Yi ⟨.o⟩ B') (hpq:p↔q) (e:(if q then A else B)=some r):@Yi ⟨.o⟩ (gP p A' B'):=gP.ite e hpq h1 h2
theorem ycq{k:Nat}{p:Prop}{ds ds':List D}{o:D}{m:List Ent}{f:D->List Ent->Prop} [c:Con p (Den P k ds' o)] (e:p) (hf:@Yi ⟨h⟩ (f o m)) (hs:QC (Sq [] [] 9) ds ds'):@Yi ⟨h⟩ (af P k ds m f):=kE (c.h e) hf hs
theorem ycv{k:Nat}{p:Prop}{ds ds':List D}{o:D}{m:List Ent}{f:D->List Ent->Prop} [c:Con p (Den P k ds' o)] (e:p) (hf:@Yi ⟨h⟩ (f o m)) (hfl:flat o=true) (hs:QC (Sq [] m 9) ds ds'):@Yi ⟨h⟩ (af P k ds m f):=KE (c.h e) hf hfl hs
theorem ylq{k:Nat}{p:Prop}{ds ds':List D}{o:D}{R:St->Prop}{dst:Option Tmp} [c:Con p (Den P k ds' o)] (e:p) (hf:@Yi ⟨h⟩ (R (s.put dst o))) (hs:QC (Sq [] [] 9) ds ds'):@Yi ⟨h⟩ (Aw P k ds [] R s dst):=YI (c.h e) hf hs
theorem ylv{k:Nat}{p:Prop}{ids:List Nat}{ds ds':List D}{o:D}{R:St->Prop}{dst:Option Tmp} [c:Con p (Den P k ds' o)] (e:p) (hf:@Yi ⟨h⟩ (R (s.put dst o))) (hfl:flat o=true) (hi:(ids.all λi=>decide (i<s.m.length))=true) (ht:FD ids ds=true) (hs:QC (Lq s.m) ds ds'):@Yi ⟨h⟩ (Aw P k ds ids R s dst):=JE (c.h e) hf hfl hi ht hs
theorem B0{s' S:St}{ρ:jq}(g:QC (Sq ρ s'.m 9) s'.t S.t/\PC ρ s'.m ρ S.m) (hk:Jx ρ N=true) (h3:(ρ.filterMap (·.1)).Nodup):@Yi ⟨.t ρ⟩ (Tells N s' S):=Tells.q ρ hk h3 g
theorem yrt(g:K .ret s):@Yi ⟨h⟩ (Tm.T P N .ret K s):=T.ret g
theorem yen{rs:List RV}{o:D}(g:kL (Cb s rs) s.m o):@Yi ⟨h⟩ (oH rs o .normal s):=P2 g
theorem yf{S:Ed}{S':St}{ρ:jq}(hS:ed S s=S') (g:@Yi ⟨.t ρ⟩ (Tells N s S')) (g2:@Yi ⟨h⟩ (Tm.T P N a K S')):@Yi ⟨.f S ρ h⟩ (Tm.T P N a K s):=T.ZG g g2
theorem gd{M:List M1}{ρ:jq}{q:Prop}(g:@Yi ⟨.d M ρ x⟩ q):@Yi ⟨.d M ρ x⟩ q:=g
theorem yd{M:List M1}{S':St}{ρ:jq}(hS:fd M s=S') (g:@Yi ⟨.t ρ⟩ (Tells N s S')) (g2:@Yi ⟨h⟩ (Tm.T P N a K S')):@Yi ⟨.d M ρ h⟩ (Tm.T P N a K s):=T.ZG g g2
theorem yj[StbC N K] {X β:Type}{n:Nat}{S:X->Ed}{S':X->St}{o:Option X}{f:X->Option β}{r:β}(hS:∀z,ed (S z) s=S' z)
 (ha:∀z,o=some z->True->@Yi ⟨h⟩ (Tm.T P N a (KJ N K S' (.inl z:X⊕Unit)) s)) (hb:Wh n (∀z,f z=some r->@Yi ⟨x⟩ (Tm.T P N b K (S' z)))) (e:o.bind f=some r):@Yi ⟨.j n S h x⟩ (Tm.T P N (.seq a b) K s):=
 jn S' e (λz hz=>ha z hz trivial) λz _ hz=>hb.h z hz
theorem ye[StbC N K] {X R:Type}{n:Nat}{S:X->Ed}{S':X->St}{o:Option (X⊕R)}{f:X⊕R->Option R}{r:R}{p:Prop}(k:p) (hS:∀z,ed (S z) s=S' z)
 (ha:∀z,o=some z->Lk Sum.inr z r p->@Yi ⟨h⟩ (Tm.T P N a (KJ N K S' z) s)) (hb:Wh n (∀z,f (.inl z)=some r->@Yi ⟨x⟩ (Tm.T P N b K (S' z)))) (hf:∀v,f (.inr v)=some v:=by intros;rfl) (e:o.bind f=some r):@Yi ⟨.e n S h x⟩ (Tm.T P N (.seq a b) K s):=by
 obtain⟨z,h1,h2⟩:=Ln e;refine T.join S' z (ha z h1 ⟨?_,k⟩) ?_
 .grind
 .rintro y rfl;exact hb.h y h2
theorem yl[StbC N K] {σ β R:Type}{n m id:Nat}{x0:σ}{step:σ->Option (Ex σ β R)}{S:σ->Ed}{B:β->Ed}{S':σ->St}{B':β->St}{f:β⊕R->Option R}{r:R}{p:Prop}{τ:jq}(k:p)
 (hS:∀z,ed (S z) s=S' z) (hB:∀z,ed (B z) s=B' z) (ht:@Yi ⟨.t τ⟩ (Tells N s (S' x0)))
 (ha:Lh n (∀q z,step q=some z->Lk Ex.ret z r p->@Yi ⟨h⟩ (Tm.T P N a (KL N id K S' B' z) (S' q)))) (hb:Wh m (∀z,f (.inl z)=some r->@Yi ⟨x⟩ (K .normal (B' z)))) (hf:∀v,f (.inr v)=some v:=by intros;rfl) (e:(da step x0).bind f=some r) :
 @Yi ⟨.l n m S B τ h x⟩ (Tm.T P N (.block id (.loop a)) K s):=by
 obtain⟨y,h1,h2⟩:=Ln e;refine lm h1 S' B' ht (λq z hz hv=>ha.h q z hz ⟨?_,k⟩) ?_
 .grind
 .rintro b rfl;exact hb.h b h2
theorem yl'[StbC N K] {σ β R ρ:Type}{n m id:Nat}{x0:σ}{step:σ->Option (Ex σ β ρ)}{S:σ->Ed}{B:β->Ed}{S':σ->St}{B':β->St}{f:β⊕ρ->Option R}{r:R}{τ:jq}
 (hS:∀z,ed (S z) s=S' z) (hB:∀z,ed (B z) s=B' z) (ht:@Yi ⟨.t τ⟩ (Tells N s (S' x0)))
 (ha:Lh n (∀q z,step q=some z->True->@Yi ⟨h⟩ (Tm.T P N a (KL N id K S' B' z) (S' q)))) (hb:Wh m (∀z,f (.inl z)=some r->@Yi ⟨x⟩ (K .normal (B' z)))) (e:(da step x0).bind f=some r) :
 @Yi ⟨.l n m S B τ h x⟩ (Tm.T P N (.block id (.loop a)) K s):=by
 obtain⟨y,h1,h2⟩:=Ln e;refine lm h1 S' B' ht (λq z hz _=>ha.h q z hz trivial) ?_;rintro b rfl;exact hb.h b h2
theorem yu[StbC N K] {σ R:Type}{n id:Nat}{x0:σ}{step:σ->Option (Ex σ Empty R)}{S:σ->Ed}{S':σ->St}{f:Empty⊕R->Option R}{r:R}{p:Prop}{τ:jq}(k:p)
 (hS:∀z,ed (S z) s=S' z) (ht:@Yi ⟨.t τ⟩ (Tells N s (S' x0)))
 (ha:Lh n (∀q z,step q=some z->Lk Ex.ret z r p->@Yi ⟨h⟩ (Tm.T P N a (KL N id K S' (λq:Empty=>q.elim) z) (S' q)))) (hf:∀v,f (.inr v)=some v:=by intros;rfl) (e:(da step x0).bind f=some r) :
 @Yi ⟨.u n S τ h⟩ (Tm.T P N (.block id (.loop a)) K s):=by
 obtain⟨y,h1,h2⟩:=Ln e;refine lm h1 S' (λq:Empty=>q.elim) ht (λq z hz hv=>ha.h q z hz ⟨?_,k⟩) (λq=>q.elim)
 grind
theorem vw{n:Nat}{p:Prop}(h:p):Wh n p:=⟨h⟩
theorem vl{n:Nat}{p:Prop}(h:p):Lh n p:=⟨h⟩
theorem yT:@Yi ⟨h⟩ True:=trivial
end
section
variable {α β:Type} {e:α->D} {l r:List α} {i:Int} {y:α} {b:Nat} {g:List α->Option β} {z:β}
theorem bA[Enc α e] (h:(app b l r).bind g=some z):∃x,(l.length+r.length)*b<=2 ^ 47/\l.map e++r.map e=x.map e/\g x=some z:=by
 obtain⟨x,h1,h2⟩:=Ln h;exact⟨x,(cI (e:=e) h1).1,(cI h1).2,h2⟩
theorem bP[Enc α e] (h:(put l i y).bind g=some z):∃x,i.toNat<l.length/\(l.map e).set i.toNat (e y)=x.map e/\g x=some z:=by
 obtain⟨x,h1,h2⟩:=Ln h;exact⟨x,(DU (e:=e) h1).1,(DU h1).2,h2⟩
theorem bM[Enc α e] {n c:Int}(h:(Ww b y n c).bind g=some z):∃x,0<=n/\n<=c/\c<=2 ^ 62/\c.toNat*b<=2 ^ 48/\Nac n.toNat (e y)=x.map e/\g x=some z:=by
 obtain⟨x,h1,h2⟩:=Ln h;obtain⟨h3,h4,h5,h6,h7⟩:=HL (e:=e) h1
 grind
theorem bZ(h:(Ws l 0).bind g=some z):g []=some z:=by
 grind[Ws]
theorem bH[Enc α e] (h:(Ws l i).bind g=some z):∃x,0<=i/\i.toNat<=l.length/\(l.map e).take i.toNat=x.map e/\((l.map e).drop 0).take (i.toNat-0)=x.map e/\g x=some z:=by
 obtain⟨x,h1,h2⟩:=Ln h;obtain⟨h3,h4,h5⟩:=RZ (e:=e) h1
 grind
theorem bL[Enc α e] (h:(dE l i).bind g=some z):∃x,0<=i/\i.toNat<=l.length/\i.toNat+x.length<=l.length/\l.length-i.toNat=x.length/\((l.map e).take l.length).drop i.toNat=x.map e/\((l.map e).drop i.toNat).take x.length=x.map e/\g x=some z:=by
 obtain⟨x,h1,h2⟩:=Ln h;obtain⟨h3,h4,h5,h6,h7⟩:=V8 (e:=e) h1
 grind[AO]
theorem bQ{k:IntKind}{a c:Int}{g:Int->Option β}(h:(quo k a c).bind g=some z):∃x,¬c=0/\ca k (a.tdiv c)=x/\g x=some z:=by
 obtain⟨x,h1,h2⟩:=Ln h
 grind[quo_f]
theorem bR{k:IntKind}{a c:Int}{g:Int->Option β}(h:(rem k a c).bind g=some z):∃x,¬c=0/\a.tmod c=x/\g x=some z:=by
 obtain⟨x,h1,h2⟩:=Ln h;exact⟨x,(W1 h1).1,(W1 h1).2,h2⟩
theorem bX{s:ByteArray}{i:Int}{g:Int->Option β}(h:(fu s i).bind g=some z):∃x,fu s i=some x/\g x=some z:=Ln h
end
theorem cT{a b:Bool}(h:a=b):a=b:=h
variable {P:Program}
theorem aJ{k:Nat}{ds:List D}{m:List Ent}{R:D->List Ent->Prop}{d2:D}{m2:List Ent}(h:CallT P k ds m R) (ht:∀d m',R d m'->Tells m.length ⟨[d],m'⟩ ⟨[d2],m2⟩):CallT P k ds m λd m'=>d=d2/\m'=m2:=by
 refine⟨h.1,λG w vs hv hi=>(h.2 G w vs hv hi).mono ?_⟩;rintro e w' ⟨v,d,m',G',rfl,hR,hvd,hi',hs⟩;have hr:Rel G' w' { tmps:=#[v],defers:=[] } ⟨[d],m'⟩:=⟨by simp only[VsRel];simp_all,hi',rfl⟩;have hN:m.length=G.n:=hi.n.symm;have h0:=hs.TV (Nat.le_of_eq hN);obtain⟨G'',h3,h4⟩:=Qq (ht d m' hR) h0.n hr;have hT:=h3.t;simp only[VsRel]at hT;obtain⟨u,us,he,h1,_⟩:=hT;injection he with he _;subst he;have h5:=h0.trans h4;rw[hN]at h5;exact⟨_,d2,m2,G'',rfl,⟨rfl,rfl⟩,h1,h3.inv,h5.toStep⟩
def EI(N:Nat) (rs:List RV) (S:St) (e:Exit) (s:St):Prop:=
 match e with
 |.normal=>∃S',Tells N s S'/\∃ds,Cb S' rs=some ds/\Tells N ⟨[Kn ds],S'.m⟩ S
 |.ret=>∃S',Tells N s S'/\∃ds,Cb S' rs=some ds/\Tells N ⟨[Kn ds],S'.m⟩ S
 |_=>False
def lL(N:Nat) (r:Option (List D)) (m:List Ent) (S:St):Prop:=∃ds,r=some ds/\Tells N ⟨[Kn ds],m⟩ S
theorem TI{N:Nat}{rs:List RV}{S s:St}(h:lL N (Cb s rs) s.m S):EI N rs S .ret s:=by
 obtain⟨ds,h1,h2⟩:=h;exact⟨s,.refl s,ds,h1,h2⟩
theorem O2{N:Nat}{rs:List RV}{S s:St}(h:lL N (Cb s rs) s.m S):EI N rs S .normal s:=by
 obtain⟨ds,h1,h2⟩:=h;exact⟨s,.refl s,ds,h1,h2⟩
theorem Bv{N:Nat}{ds:List D}{m:List Ent}{S:St}:lL N (some ds) m S=Tells N ⟨[Kn ds],m⟩ S:=by simp[lL]
@[congr] theorem W4{N:Nat} {r r':Option (List D)} {m:List Ent} {S:St} (h:r=r'):lL N r m S=lL N r' m S:=by rw[h]
instance {N:Nat}{rs:List RV}{S:St}:StbC N (EI N rs S):=⟨by
 rintro s S' h ⟨S1,h1,h2⟩;exact⟨S1,h.trans h1,h2⟩⟩
theorem ox{k:Nat}(KF:Kf P k) {ds:List D}{m m2:List Ent}{d2:D}(w:Nat) (hw:KF.F.ntmps=ds.length+w) (h:T P m.length KF.F.code (EI m.length KF.F.results ⟨[d2],m2⟩) ⟨ds++Tm.ds w [],m⟩):CallT P k ds m λd m'=>d=d2/\m'=m2:=by
 refine aJ (R:=λd m'=>Tells m.length ⟨[d],m'⟩ ⟨[d2],m2⟩) (Oj KF.ok KF.nm ?_) λ_ _ h=>h;rw[hw,Zae,←XB];refine T.uS (h.mono ?_);have key:∀(e:Exit) (s:St),(∀s',wz KF.F.results (λd m'=>Tells m.length ⟨[d],m'⟩ ⟨[d2],m2⟩) e s' = ∃ds,Cb s' KF.F.results=some ds/\Tells m.length ⟨[Kn ds],s'.m⟩ ⟨[d2],m2⟩)->(∃S',Tells m.length s S'/\∃ds,Cb S' KF.F.results=some ds/\Tells m.length ⟨[Kn ds],S'.m⟩ ⟨[d2],m2⟩)->rK m.length (wz KF.F.results λd m'=>Tells m.length ⟨[d],m'⟩ ⟨[d2],m2⟩) e s:=by
  intro e s he ⟨S,h1,h2⟩ G w a hN hr
  grind[Qq]
 intro e s hs
 cases e with
 |normal=>exact key _ s (λ_=>rfl) hs
 |ret=>exact key _ s (λ_=>rfl) hs
 |_=>exact(hs:False).elim
theorem oO{a:Int}{k:IntKind}:oh .shr .u64 a k 1=some (.int .u64 (a.fdiv 2)):=by
 have h:((2 ^ (min (1:Int).toNat IntKind.u64.bits):Nat):Int)=2:=by decide
 grind[oh]
def mL:List Int:=[31,28,31,30,31,30,31,31,30,31,30,31]
def gaa(n:Int):D:=.v (.int .i64 n)
theorem X0{s:St}:s.ev (.global 2)=.pt (.agg (mL.map gaa)):=Mac rfl rfl
theorem dT{n:Int}:gaa n=.v (.int .i64 n):=Mac rfl rfl
def lst{α:Type}(l:List α):Option (List α):=some l
def mka{α:Type}(b:Nat) (z:α) (n:Int):Option (List α):=if 0<n/\n.toNat*b<=2 ^ 47 then some (Nac n.toNat z)else none
def Q9{α:Type}(l:List α) (lo:Int) (v:List α) (z:α):Option (List α):=if 0<=lo/\lo.toNat+v.length<=l.length then some (l.take lo.toNat++Nac v.length z++l.drop (lo.toNat+v.length))else none
section
variable {α β:Type} {e:α->D} {l v:List α} {i:Int} {y:α} {b:Nat} {g:List α->Option β} {z:β}
theorem bK[Enc α e] (h:(mka b y i).bind g=some z):∃x,0<i/\i.toNat*b<=2 ^ 47/\Nac i.toNat (e y)=x.map e/\g x=some z:=by
 obtain⟨x,h1,h2⟩:=Ln h;unfold mka at h1;split at h1
 .rename_i hc;obtain rfl:=nad h1;exact⟨_,hc.1,hc.2,List.map_replicate.symm,h2⟩
 simp_all
theorem bC[Enc α e] (h:(Q9 l i v y).bind g=some z):∃x,(l.map e).take i.toNat++Nac v.length (e y)++(l.map e).drop (i.toNat+v.length)=x.map e/\g x=some z:=by
 obtain⟨x,h1,h2⟩:=Ln h;unfold Q9 at h1;split at h1
 .obtain rfl:=nad h1;exact⟨_,by simp,h2⟩
 simp_all
theorem bV[Enc α e] (h:(lst l).bind g=some z):∃x,l.map e=x.map e/\g x=some z:=by
 obtain⟨x,h1,h2⟩:=Ln h;obtain rfl:=nad h1
 grind
theorem bG{g:Int->Option β}(h:(idx mL i).bind g=some z):∃x,0<=i/\mL[i.toNat]?=some x/\i.toNat<12/\g x=some z:=bO h
theorem zn:type_of% (And.intro (And.intro @oO @X0) (And.intro @dT @gaf)):=And.intro (And.intro @oO @X0) (And.intro @dT @gaf)
end
def sW(P:Program) (k:Nat) (S:Nat) (l l':List D):Prop:=∀m id Ma,m[id]?=some (.live S Ma l)->CallT P k [.own id Ma] m λd m'=>d=.own id (Ma+1)/\m'=m.set id (.live S (Ma+1) l')
section
open Go.Sort
theorem QS{k:FuncId}(hE:Enters P k) {zs ys:List Int}(hlen:ys.length<=zs.length)
 (h1:∀w b off cap,Holds (Value.int .i64) w b off zs.toArray->zs.length<=cap->Calls P k #[.slice (some ⟨b,off,none⟩) zs.length cap] w λe w'=>e=.returned (.slice (some ⟨b,off,none⟩) ys.length cap)/\∃n xs,xs.length+ys.length=zs.length/\w'=grow (putRow (Value.int .i64) (Sort.ahead w n) b off (ys++xs).toArray) #[])
 (h0:∀w cap,Calls P k #[.slice none 0 cap] w λe w'=>e=.returned (.slice none 0 cap)/\w'=w):sW P k 1 (zs.map eI) (ys.map eI):=
 λm id Ma hm=>BM hE hm hlen h1 h0
end
section
variable {h:Hi} {k id S Ma:Nat} {p:Prop} {pre post l l' ds:List D} {o:D} {m:List Ent} {f:D->List Ent->Prop}
theorem ycA[c:Con p (sW P k S l l')] (e:p) (hf:@Yi ⟨h⟩ (f (.own id (Ma+1)) (m.set id (.live S (Ma+1) l')))) (hm:m[id]?=some (.live S Ma l)):@Yi ⟨h⟩ (af P k [.own id Ma] m f):=Ub (c.h e m id Ma hm) hf
theorem ycf{d d':D}{q:List D} [c:Con p (Den P k ([d']++q) o)] (e:p) (hq:ja q=true) (hf:@Yi ⟨h⟩ (f o m)) (hs:Sq [] [] 9 d d'):@Yi ⟨h⟩ (af P k (d::q) m f):=gS (c.h e) hq hf hs
theorem ycC[c:Con p (GD P k pre post S l o)] (e:p) (hf:@Yi ⟨h⟩ (f o (m.set id .gone))) (hds:ds=pre++.own id Ma::post) (hm:m[id]?=some (.live S Ma l)):@Yi ⟨h⟩ (af P k ds m f):=qO (c.h e) hds hm hf
theorem ycW[c:Con p (CR P k pre post S l l' o)] (e:p) (hf:@Yi ⟨h⟩ (f o (m.set id (.live S Ma l')))) (hds:ds=pre++.own id Ma::post) (hm:m[id]?=some (.live S Ma l)):@Yi ⟨h⟩ (af P k ds m f):=MW (c.h e) hds hm hf
end
def St.hd(s:St):D:=s.t.headD .dead
theorem yi{X β:Type}{h x:Hi}{k:Nat}{KF:Kf P k}{n w:Nat}{S:X->Ed}{d2:X->D}{m2:X->List Ent}{m:List Ent}{ds:List D}{f:D->List Ent->Prop}{o:Option X}{g:X->Option β}{r:β}
 (hS:∀z,ed (S z) ⟨[.dead],m⟩=⟨[d2 z],m2 z⟩) (hw:KF.F.ntmps=ds.length+w)
 (ha:∀z,o=some z->True->@Yi ⟨h⟩ (T P m.length KF.F.code (EI m.length KF.F.results ⟨[d2 z],m2 z⟩) ⟨ds++Tm.ds w [],m⟩))
 (hb:Wh n (∀z,g z=some r->@Yi ⟨x⟩ (f (d2 z) (m2 z)))) (e:o.bind g=some r):@Yi ⟨.i KF n w S h x⟩ (af P k ds m f):=by
 obtain⟨z,h1,h2⟩:=Ln e;exact Ub (ox KF w hw (ha z h1 trivial)) (hb.h z h2)
theorem gi0{X:Type}{h x:Hi}{k j:Nat}{KF:Kf P j}{n w:Nat}{S:X->Ed}{m:List Ent}{ds:List D}{f:D->List Ent->Prop}(g:@Yi ⟨.i KF n w S h x⟩ (af P k ds m f)):@Yi ⟨.i KF n w S h x⟩ (af P k ds m f):=g
structure Ck (p q:Prop):Prop where
 h:p
 k:q
instance {N:Nat}{K:Exit->St->Prop}:StbC N (rK N K):=⟨by
 intro s S h k G w a hN hr;obtain⟨G1,h1,h2⟩:=Qq h hN hr;obtain⟨s',G2,h3,h4,h5⟩:=k G1 w a h2.n h1;exact⟨s',G2,h3,h4,h2.trans h5⟩⟩
def dX(r:Option (List D)) (f:D->List Ent->Prop) (m:List Ent):Prop:=∃ds,r=some ds/\f (Kn ds) m
theorem sQ{ds:List D}{f:D->List Ent->Prop}{m:List Ent}:dX (some ds) f m=f (Kn ds) m:=by simp[dX]
theorem yc{X β:Type}{h:Hi}{k:Nat}{KF:Kf P k}{w:Nat}{m:List Ent}{ds:List D}{f:D->List Ent->Prop}{o:Option X}{g:X->Option β}{r:β}{q:Prop}(k':q) (hw:KF.F.ntmps=ds.length+w)
 (ha:∀z,o=some z->Ck (g z=some r) q->@Yi ⟨h⟩ (T P m.length KF.F.code (rK m.length (wz KF.F.results f)) ⟨ds++Tm.ds w [],m⟩)) (e:o.bind g=some r):@Yi ⟨.c KF w h⟩ (af P k ds m f):=by
 obtain⟨z,h1,h2⟩:=Ln e;refine Oj KF.ok KF.nm ?_;rw[hw,Zae,←XB];exact T.uS (ha z h1 ⟨h2,k'⟩)
theorem gc0{h:Hi}{k j:Nat}{KF:Kf P j}{w:Nat}{m:List Ent}{ds:List D}{f:D->List Ent->Prop}(g:@Yi ⟨.c KF w h⟩ (af P k ds m f)):@Yi ⟨.c KF w h⟩ (af P k ds m f):=g
theorem gv{x:Hi}{p:Prop}(g:@Yi ⟨.v x⟩ p):@Yi ⟨.v x⟩ p:=g
theorem yvr{x:Hi}{M:Nat}{rs:List RV}{f:D->List Ent->Prop}{s:St}(g:@Yi ⟨x⟩ (dX (Cb s rs) f s.m)):@Yi ⟨.v x⟩ (rK M (wz rs f) .ret s):=by
 obtain⟨ds,h1,h2⟩:=g;exact rK.of (show wz rs f .ret s from⟨ds,h1,h2⟩)
theorem yvn{x:Hi}{M:Nat}{rs:List RV}{f:D->List Ent->Prop}{s:St}(g:@Yi ⟨x⟩ (dX (Cb s rs) f s.m)):@Yi ⟨.v x⟩ (rK M (wz rs f) .normal s):=by
 obtain⟨ds,h1,h2⟩:=g;exact rK.of (show wz rs f .normal s from⟨ds,h1,h2⟩)
theorem yno{α:Type}{r:α}{p:Prop}(h:none=some r):p:=nomatch h
theorem yrr{h:Hi}{K:Exit->St->Prop}{s:St}{N:Nat}(g:@Yi ⟨h⟩ (K .ret s)):@Yi ⟨h⟩ (Tm.T P N .ret K s):=T.ret g
theorem yrI{N:Nat}{h:Hi}{rs:List RV}{S s:St}(g:@Yi ⟨h⟩ (lL N (Cb s rs) s.m S)):@Yi ⟨h⟩ (EI N rs S .ret s):=TI g
theorem ynI{N:Nat}{h:Hi}{rs:List RV}{S s:St}(g:@Yi ⟨h⟩ (lL N (Cb s rs) s.m S)):@Yi ⟨h⟩ (EI N rs S .normal s):=O2 g
class FrO (d:D):Prop where
 h:la d=true
instance {α:Type}{e:α->D} [Fr e] {x:α}:FrO (e x):=⟨Fr.h x⟩
instance {l:List D} [FrL l]:FrO (.tup l):=⟨FrL.h⟩
def dep:Nat->D->Bool
 |0,_=>false
 |k+1,.agg l=>l.all (dep k)
 |k+1,.tup l=>l.all (dep k)
 |_+1,.sl _ _=>true
 |k+1,.pt d=>dep k d
 |_+1,.v _=>true
 |_,_=>false
theorem Dx(m:List Ent):∀{k:Nat}{d:D},la d=true->dep k d=true->Ye k m d=d
 |0,_,_,h=>by grind[dep]
 |k+1,.agg l,h1,h2=>by
  simp only[dep,Kad]at h2;simp only[la,Ri]at h1;simp only[Ye];congr 1;exact(Bae λd hd=>Dx m (h1 d hd) (h2 d hd)).trans (Qag _)
 |k+1,.tup l,h1,h2=>by
  simp only[dep,Kad]at h2;simp only[la,Ri]at h1;simp only[Ye];congr 1;exact(Bae λd hd=>Dx m (h1 d hd) (h2 d hd)).trans (Qag _)
 |_+1,.sl _ l,h1,_=>by
  simp_all[la,Ye]
 |k+1,.pt d,h1,h2=>by
  simp only[dep]at h2;simp only[la]at h1;simp only[Ye,Dx m h1 h2]
 |_+1,.v _,_,_=>rfl
 |k+1,.own ..,_,h=>by grind[dep]
 |k+1,.view ..,_,h=>by grind[dep]
 |k+1,.ref ..,_,h=>by grind[dep]
 |k+1,.fn ..,_,h=>by grind[dep]
 |k+1,.mp ..,_,h=>by grind[dep]
 |k+1,.ifc ..,_,h=>by grind[dep]
 |k+1,.dead,_,h=>by grind[dep]
theorem IG{id Ma:Nat}:∀{l:List D},ja l=true->l.map (yD id Ma)=l
 |[],_=>rfl
 |d::l,h=>by
  simp only[ja,Sac]at h;rw[Bad,IG h.2];congr 1;have h1:=h.1;cases d<;>simp_all[yD,la]
def vP(P:Program) (k:Nat) (pre post:List D) (S:Nat) (l l':List D) (o:D):Prop:=ja pre=true/\ja post=true/\∀m id Ma,m[id]?=some (.live S Ma l)->CallT P k (pre++.ref id Ma 0 0::post) m λd m'=>d=o/\m'=m.set id (.live S Ma l')
theorem vP.of{k:Nat}{pre post:List D}{S:Nat}{l l':List D}{o:D}(n:Nat) (K:Kf P k) (h:T P 1 K.F.code (EI 1 K.F.results ⟨[o],[.live S 0 l']⟩) ⟨(pre++.ref 0 0 0 0::post)++Tm.ds n [],[.live S 0 l]⟩)
 (hpre:ja pre=true:=by exact FrL.h) (hpost:ja post=true:=by exact FrL.h) (hl:ja l=true:=by exact FrL.h) (ho:la o=true:=by exact FrO.h) (hl':ja l'=true:=by exact FrL.h) (hd:dep 8 o=true:=by rfl) (hd':l'.all (dep 8)=true:=by rfl)
 (hn:K.F.ntmps=(pre++.ref 0 0 0 0::post).length+n:=by rfl):vP P k pre post S l l' o:=by
 refine⟨hpre,hpost,λm id Ma hid=>?_⟩;have h1:=ox K n hn (m:=[.live S 0 l]) (m2:=[.live S 0 l']) (d2:=o) h;have e1:(pre++.ref id Ma 0 0::post).map (yD id Ma)=pre++.ref 0 0 0 0::post:=by
  simp_all[yD,IG]
 refine(dS hid hl (m1:=[.live S 0 l']) rfl (by rw[e1];omega)).mono ?_;rintro d m' ⟨rfl,rfl⟩;refine⟨Dx _ ho hd,?_⟩;congr 2;rw[Kad]at hd';exact(Bae λd hd=>Dx _ (Ri.1 hl' d hd) (hd' d hd)).trans (Qag _)
theorem ycE{pre post:List D}{S id Ma k:Nat}{l l' ds:List D}{o:D}{m:List Ent}{f:D->List Ent->Prop}{h:Hi}{p:Prop} [c:Con p (vP P k pre post S l l' o)] (e:p) (hf:@Yi ⟨h⟩ (f o (m.set id (.live S Ma l')))) (hds:ds=pre++.ref id Ma 0 0::post) (hm:m[id]?=some (.live S Ma l)):@Yi ⟨h⟩ (af P k ds m f):=by
 subst hds;exact Ub ((c.h e).2.2 m id Ma hm) hf
theorem gce{h:Hi}{k:FuncId}{ds:List D}{ids:List Nat}{fp:List (List Nat)}{p:List Nat}{x:Nat}{f:D->Ent->Prop}{s:St}(g:@Yi ⟨h⟩ (TC P k ds ids fp p x f s)):@Yi ⟨h⟩ (TC P k ds ids fp p x f s):=g
theorem ywE{pre post:List D}{S Ma k:Nat}{l l' ds:List D}{o:D}{h:Hi}{q:Prop}{ids:List Nat}{fp:List (List Nat)}{p:List Nat}{x:Nat}{f:D->Ent->Prop}{s:St} [c:Con q (vP P k pre post S l l' o)] (e:q) (hf:@Yi ⟨h⟩ (f o (.live S Ma l')))
 (hds:ds=pre++.ref x Ma 0 0::post) (hm:s.m[x]?=some (.live S Ma l)) (hx:(ids.elem x&&fA fp ids p)=true) (hi:ids=[x]):@Yi ⟨h⟩ (TC P k ds ids fp p x f s):=by
 subst hds;subst hi;have hlt:x<s.m.length:=(oad.1 hm).1;refine⟨hx,o,_,⟨λid hid=>by simp_all,λm hmm=>?_⟩,hf⟩;exact(c.h e).2.2 m x Ma (by simp_all)
theorem ydp{h:Hi}{N:Nat}{q:Nat}{l:List RI}{K:Exit->St->Prop}{s:St}{ps:List (List Nat)}{pl:List (Option Nat)}(hm:P.follows .mixedOrders=true) (hps:ps=fx q) (hcl:rz pl l=true) (hpl:Ls s.m pl=true) (g:@Yi ⟨h⟩ (Rg P pl ps q l (K .normal) [] s)):@Yi ⟨.g ps pl h⟩ (Tm.T P N (.draw q l) K s):=T.dp hm ps pl hps hcl hpl g
def KR(m:List Ent):D->D->Prop
 |.agg a,.agg b=>QC (Lq m) a b
 |d,e=>Lq m d e
def kM(ids:List Nat) (ds:List D):Bool:=ds.all λd=>match d with|.agg a=>FD ids a|d=>FD ids [d]
theorem RO{m m':List Ent}{ids:List Nat}(hm:∀id∈ids,m'[id]?=m[id]?):∀{a b:List D},QC (KR m) a b->kM ids a=true->Sbs [] m' a b
 |[],[],_,_=>.nil
 |d::l,e::r,h,ht=>by
  simp only[kM,sae,Sac]at ht;have ih:=RO hm h.2 (by grind[kM]);have h1:=h.1;have ht1:=ht.1;unfold KR at h1;split at h1
  .exact .agg (rE hm h1 ht1) ih
  .rename_i hne;have ht2:FD ids [d]=true:=by
    grind[FD,Ud]
   exact Sbs.app (a:=[d]) (b:=[e]) (rE hm ⟨h1,trivial⟩ ht2) ih
 |[],_::_,h,_=>h.elim
 |_::_,[],h,_=>h.elim
theorem cS{k:Nat}{ids:List Nat}{ds ds':List D}{o:D}{R:St->Prop}{s:St}{dst:Option Tmp}(h:Den P k ds' o) (hf:R (s.put dst o)) (hfl:flat o=true) (hi:(ids.all λi=>decide (i<s.m.length))=true) (ht:kM ids ds=true) (hs:QC (KR s.m) ds ds'):Aw P k ds ids R s dst:=by
 refine⟨o,⟨λid hid=>?_,λm hm=>?_⟩,hf⟩
 .simp_all
 .exact Cz h (RO hm hs ht) hfl ⟨rfl,rfl⟩
theorem ylw{k:Nat}{h:Hi}{s:St}{p:Prop}{ids:List Nat}{ds ds':List D}{o:D}{R:St->Prop}{dst:Option Tmp} [c:Con p (Den P k ds' o)] (e:p) (hf:@Yi ⟨h⟩ (R (s.put dst o))) (hfl:flat o=true) (hi:(ids.all λi=>decide (i<s.m.length))=true) (ht:kM ids ds=true) (hs:QC (KR s.m) ds ds'):@Yi ⟨h⟩ (Aw P k ds ids R s dst):=cS (c.h e) hf hfl hi ht hs
section
variable {m:List Ent} {S x y lo n s:Nat} {a b:List D} {e:D}
theorem OT:KR m (.agg a) (.agg b)=QC (Lq m) a b:=Mac rfl rfl
theorem PT:KR m (.own x y) (.sl S b)=Lq m (.own x y) (.sl S b):=Mac rfl rfl
theorem LO:KR m (.view x y lo n) (.sl S b)=Lq m (.view x y lo n) (.sl S b):=Mac rfl rfl
theorem QT{z:Nat}:KR m (.ref x y z s) (.pt e)=Lq m (.ref x y z s) (.pt e):=Mac rfl rfl
theorem l2_v{z:Value}:KR m (.v z) e=Lq m (.v z) e:=by cases e<;>rfl
theorem J1{z:List D}:KR m (.sl S z) e=Lq m (.sl S z) e:=by cases e<;>rfl
theorem F1{z:D}:KR m (.pt z) e=Lq m (.pt z) e:=by cases e<;>rfl
theorem zw:type_of% (And.intro (And.intro (And.intro @OT @PT) (And.intro @LO @QT)) (And.intro (And.intro @l2_v @J1) @F1)):=And.intro (And.intro (And.intro @OT @PT) (And.intro @LO @QT)) (And.intro (And.intro @l2_v @J1) @F1)
end
end Go.Tm
