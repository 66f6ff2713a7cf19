/-
  The engine: a part of the proof that trees of values are carried along by the program: no condition.
-/
import Derived.Test.YtnlamdfggbdblaaGreatDoorEB
import Derived.ProofKit
import Derived.OpenShut
import Derived.WideShapes
import Derived.Lib.LaidTab
import Derived.SizedLaws
import Derived.Sort.Row
import Derived.Sort.Grow
import Derived.KernelRfl
open Bool renaming and_eq_true->laa,and_true->paa,true_and->Uaa
open Classical renaming not_not->vaa
open Eq renaming trans->daa
open List renaming all_cons->Qab,all_eq_true->Oaa,append_nil->Naa,cons_append->Haa,contains_iff_mem->Eab,drop_drop->Cac,drop_zero->iac,eq_nil_of_length_eq_zero->zaa,ext_getElem?->zab,foldlM->yad,getD_cons_succ->Rab,getD_cons_zero->Vac,getElem?_cons_succ->fab,getElem?_cons_zero->Paa,getElem?_eq_getElem->caa,getElem?_eq_some_iff->yaa,getElem_mem->iaa,length_cons->Daa,length_map->nab,length_nil->Waa,map_congr_left->zac,map_cons->Gaa,map_id->nad,map_nil->Fab,mem_append->bab,mem_cons->gab,mem_map_of_mem->Wac,nil_append->Xaa,replicate->gaa,replicate_succ->cab,replicate_zero->Aac,take_length->wab,take_of_length_le->Mac
open Nat renaming add_sub_cancel_left->Sab,beq->Jac,le_refl->oaa,lt_or_ge->Oab,lt_succ_self->sac,not_lt_zero->sad,sub_zero->kac,zero_add->qab,zero_le->Bab,zero_lt_succ->kad
open Option renaming bind_eq_some_iff->pab,map_eq_some_iff->eaa,map_some->Cab
open Option.some renaming inj->Faa,injEq->Maa
open Prod renaming fst->cad
open Prod.mk renaming injEq->xaa
set_option linter.all false
namespace Go.Tm
inductive W where
 |c (c:C)
 |l (l:List RI)
 |an (q:Nat) (bs:List (List Nat)) (l:List RI)
 |yo (pl:List (Option Nat)) (ps fp:List (List Nat)) (q:Nat) (l:List RI)
 |f (k:Nat) (ds:List D)
 |p (k:Nat) (ds:List D)
 |q (k:Nat) (ds:List D)
 |w (p k:Nat) (ds:List D)
section
variable {P:Program} {FT:Nat->Option (Fun×Nat)} {O:Nat->List D->Option D}
end
variable {α:Type}
noncomputable section
def vT(k:IntKind):Int:=
 match k with
 |.i8=>256|.i16=>65536|.i32=>4294967296|.i64=>18446744073709551616
 |.u8=>256|.u16=>65536|.u32=>4294967296|.u64=>18446744073709551616
theorem QK(k:IntKind):vT k=2 ^ k.bits:=by cases k<;>rfl
def OF(n h m:Int):Int:=bif decide (n % m>=h)then n % m-m else n % m
def ea(k:IntKind) (n:Int):Int:=
 match k with
 |.i8=>OF n 128 256
 |.i16=>OF n 32768 65536
 |.i32=>OF n 2147483648 4294967296
 |.i64=>OF n 9223372036854775808 18446744073709551616
 |.u8=>n % 256
 |.u16=>n % 65536
 |.u32=>n % 4294967296
 |.u64=>n % 18446744073709551616
theorem zu(k:IntKind) (n:Int):ea k n=k.wrap n:=by
 cases k<;>simp[ea,OF,IntKind.wrap,IntKind.bits,IntKind.signed,cond_eq_ite]
def SR(op:Nat->Nat->Nat) (k:IntKind) (x y:Int):Value:=.int k (ea k (op (x % vT k).toNat (y % vT k).toNat:Nat))
theorem DM(k:IntKind) (x:Int):(BitVec.ofInt k.bits x).toNat=(x % vT k).toNat:=by
 rw[BitVec.toNat_ofInt,QK];norm_cast
def Ln(op:BinOp) (j:IntKind) (a:Int) (k:IntKind) (b:Int):Option Value:=
 match op with
 |.add=>bif decide (j=k)then some (.int j (ea j (a+b)))else none
 |.sub=>bif decide (j=k)then some (.int j (ea j (a-b)))else none
 |.mul=>bif decide (j=k)then some (.int j (ea j (a*b)))else none
 |.eql=>bif decide (j=k)then some (.bool (a==b))else none
 |.neq=>bif decide (j=k)then some (.bool (a !=b))else none
 |.lss=>bif decide (j=k)then some (.bool (decide (a<b)))else none
 |.leq=>bif decide (j=k)then some (.bool (decide (a<=b)))else none
 |.gtr=>bif decide (j=k)then some (.bool (decide (b<a)))else none
 |.geq=>bif decide (j=k)then some (.bool (decide (b<=a)))else none
 |.and=>bif decide (j=k)then some (SR Nat.land j a b)else none
 |.or=>bif decide (j=k)then some (SR Nat.lor j a b)else none
 |.xor=>bif decide (j=k)then some (SR Nat.xor j a b)else none
 |.quo=>bif decide (j=k)&&!decide (b=0)then some (.int j (ea j (a.tdiv b)))else none
 |.rem=>bif decide (j=k)&&!decide (b=0)then some (.int j (a.tmod b))else none
 |.shl=>bif decide (b<0)then none else some (.int j (ea j (a*((2 ^ (min b.toNat j.bits):Nat):Int))))
 |.shr=>bif decide (b<0)then none else some (.int j (a.fdiv ((2 ^ (min b.toNat j.bits):Nat):Int)))
 |op=>Ff (binOp op 0 (.int j a) (.int k b))
theorem RR(op:BinOp) (j:IntKind) (a:Int) (k:IntKind) (b:Int):Ln op j a k b=Ff (binOp op 0 (.int j a) (.int k b)):=by
 have hst:∀{α:Type} (x:String),Ff (stuck x:Sem α)=none:=λ_=>rfl;have hp:∀{α:Type} (x:α),Ff (pure x:Sem α)=some x:=λ_=>rfl;have hrt:∀{α:Type} x,Ff (runtimePanic x:Sem α)=none:=λ_=>rfl;cases op
 case shl=>
  simp only[Ln,binOp,Op.shift,cond_eq_ite,decide_eq_true_eq];split<;>simp[hst,hp,hrt,zu]
 case shr=>
  simp only[Ln,binOp,Op.shift,cond_eq_ite,decide_eq_true_eq];split<;>simp[hst,hp,hrt]
 all_goals
  by_cases hjk:j=k
  .subst hjk;simp[Ln,binOp,Op.intArith,Op.intCmp,Op.intBits,Op.intDiv,hst,hp,hrt,zu,SR,DM,QK];(try rfl);(try (split<;>simp[hst,hp,hrt,zu, *]))
  .simp[Ln,binOp,hjk,hst]
section
variable {FT:Nat->Option (Fun×Nat)} {O:Nat->List D->Option D}
variable {P:Program}
end
end
variable {P:Program} {N:Nat}
def jt(r:Option (D×List Ent)) (f:D->List Ent->Prop):Prop:=
 match r with
 |some p=>f p.1 p.2
 |none=>False
@[congr] theorem FW{r r':Option (D×List Ent)} {f:D->List Ent->Prop} (h:r=r'):jt r f=jt r' f:=by rw[h]
theorem xL(d:D) (m:List Ent) (f:D->List Ent->Prop):jt (some (d,m)) f=f d m:=daa rfl rfl
theorem Mt(r:Option (D×List Ent)) (f:D->List Ent->Prop):jt r f↔∃d m',r=some (d,m')/\f d m':=by
 cases r with
 |none=>simp[jt]
 |some p=>
  obtain⟨d,m⟩:=p;simp only[jt];exact⟨λh=>⟨d,m,rfl,h⟩,λ⟨_,_,h1,h2⟩=>by injection h1 with h1;injection h1 with h1 h3;rw[h1,h3];exact h2⟩
def lg(P:Program) (k:Nat) (ds:List D) (m:List Ent) (f:D->List Ent->Prop):Prop:=CallT P k ds m f
@[congr] theorem FV{k k':Nat} {ds ds':List D} {m m':List Ent} {f:D->List Ent->Prop} (h1:k=k') (h2:ds=ds') (h3:m=m'):lg P k ds m f=lg P k' ds' m' f:=by rw[h1,h2,h3]
theorem Rk{k:Nat}{ds:List D}{m m1:List Ent}{d1:D}{f:D->List Ent->Prop}(h:CallT P k ds m λd m'=>d=d1/\m'=m1) (hf:f d1 m1):lg P k ds m f:=
 h.mono λd m' ⟨h1,h2⟩=>by rw[h1,h2];exact hf
theorem Tc.cons{d e:D}{l r:List D}(h1:Sub d e) (h2:Tc l r):Tc (d::l) (e::r):=by
 simp only[Tc];exact⟨e,r,rfl,h1,h2⟩
theorem Sub.Gy(d:D):Sub d .dead:=by cases d<;>simp[Sub]
variable {P:Program} {N:Nat}
def gP(p Y N:Prop):Prop:=(p->Y)/\(¬p->N)
theorem J1{Y N:Prop}:gP True Y N=Y:=by simp[gP]
theorem F1{Y N:Prop}:gP False Y N=N:=by simp[gP]
@[congr] theorem K1{p p' Y N:Prop} (h:p=p'):gP p Y N=gP p' Y N:=by rw[h]
theorem gP.mk{p Y N:Prop}(h1:p->Y) (h2:¬p->N):gP p Y N:=⟨h1,h2⟩
def FG(s:St) (g:Option (Tmp×Bool)) (b:Bool):St:=
 match g with
 |none=>s
 |some (t,_)=>
  match s.t.getD t .dead with
  |.v (.bool _)=>{ s with t:=s.t.set t (.v (.bool b)) }
  |_=>s
theorem Vz{l:List D}{t:Nat}{d:D}(h:l.getD t .dead=d) (hd:d≠.dead):l.set t d=l:=by
 apply zab
 grind
theorem WK{s:St}{g:Option (Tmp×Bool)}{c b:Bool}(hg:gate s g=some (some (c,b))) (e:c=b):FG s g b=s:=by
 unfold FG
 cases g with
 |none=>rfl
 |some p=>
  obtain⟨t,b'⟩:=p;simp only;split
  all_goals simp_all[gate,Vz]
theorem RP{s:St}{g:Option (Tmp×Bool)}{c b:Bool}(hg:gate s g=some (some (c,b))) (e:c≠b):FG s g (!b)=s:=by
 unfold FG
 cases g with
 |none=>rfl
 |some p=>
  obtain⟨t,b'⟩:=p;simp only;split
  .rename_i x hx;simp only[gate,hx]at hg;injection hg with hg;injection hg with hg;injection hg with h1 h2;subst h1 h2;have:x = !b':=by cases x<;>cases b'<;>simp_all
   simp_all[Vz]
  .rfl
def KO(R:St->Prop) (s:St) (dst:Option Tmp) (d:D) (m':List Ent):Prop:=R ({ s with m:=m' }.put dst d)
def wh(P:Program):List RI->(St->Prop)->St->Prop
 |[],K,s=>K s
 |.op dst g i::l,K,s=>
  match gate s g with
  |none=>False
  |some none=>jt (la s i) (KO (wh P l K) s dst)
  |some (some (c,b))=>gP (c=b) (jt (la (FG s g b) i) (KO (wh P l K) (FG s g b) dst)) (wh P l K ((FG s g (!b)).put dst (.v undef)))
 |.call dst g f args::l,K,s=>
  match s.ec f with
  |.fn k first caps=>
   match gate s g with
   |none=>False
   |some none=>lg P k (first++args.map s.ev++caps) s.m (KO (wh P l K) s dst)
   |some (some (c,b))=>gP (c=b) (lg P k (first++args.map (FG s g b).ev++caps) s.m (KO (wh P l K) (FG s g b) dst)) (wh P l K ((FG s g (!b)).put dst (.v undef)))
  |_=>False
theorem Su:∀{l:List RI}{K:St->Prop}{s:St},wh P l K s->Qk P l K s
 |[],K,s,h=>h
 |.op dst g i::l,K,s,h=>by
  simp only[wh]at h;simp only[Qk];split at h
  .simp_all
  .rename_i hg;rw[hg];obtain⟨d,m',h1,h2⟩:=(Mt _ _).1 h;exact⟨d,m',h1,Su h2⟩
  .rename_i c b hg;rw[hg];refine⟨λe=>?_,λe=>?_⟩
   .have h:=h.1 e;rw[WK hg e]at h;obtain⟨d,m',h1,h2⟩:=(Mt _ _).1 h;exact⟨d,m',h1,Su h2⟩
   .have h:=h.2 e;rw[RP hg e]at h;exact Su h
 |.call dst g f args::l,K,s,h=>by
  simp only[wh]at h;simp only[Qk];split at h
  .rename_i k first caps hf
   rw[hf];split at h
   .simp_all
   .rename_i hg;rw[hg];exact h.mono λ_ _ h2=>Su h2
   .rename_i c b hg;rw[hg];refine⟨λe=>?_,λe=>?_⟩
    .have h:=h.1 e;rw[WK hg e]at h;exact h.mono λ_ _ h2=>Su h2
    .have h:=h.2 e;rw[RP hg e]at h;exact Su h
  simp_all
def vx(P:Program):Nat->List RI->(St->Prop)->St->Prop
 |0,l,K,s=>wh P l K s
 |_+1,[],_,_=>False
 |q+1,.op dst g i::l,K,s=>
  match gate s g with
  |none=>False
  |some none=>jt (la s i) (KO (vx P q l K) s dst)
  |some (some (c,b))=>gP (c=b) (jt (la s i) (KO (vx P q l K) s dst)) (vx P q l K (s.put dst (.v undef)))
 |q+1,.call dst g f args::l,K,s=>
  match s.cv f with
  |.fn k first caps=>
   match gate s g with
   |none=>False
   |some none=>∃d,(∀m,CallT P k (first++args.map s.ev++caps) m λd' m'=>d'=d/\m'=m)/\vx P q l K (s.put dst d)
   |some (some (c,b))=>(c=b->∃d,(∀m,CallT P k (first++args.map s.ev++caps) m λd' m'=>d'=d/\m'=m)/\vx P q l K (s.put dst d))/\(c≠b->vx P q l K (s.put dst (.v undef)))
  |_=>False
theorem IL{f:FuncId}{ds ds':List D}{m:List Ent}{R:D->List Ent->Prop}(hs:Tc ds ds') (h:CallT P f ds' m R):CallT P f ds m R:=
 ⟨h.1,λG w vs hv hi=>h.2 G w vs (hs.rel hv) hi⟩
def KS(P:Program) (N:Nat) (b:C) (K:Exit->St->Prop) (e:Exit) (s':St):Prop:=match e with|.normal=>Tm.T P N b K s'|e=>K e s'
theorem uL{b:C}{K:Exit->St->Prop}{s:St}:KS P N b K .normal s=Tm.T P N b K s:=daa rfl rfl
theorem KR{b:C}{K:Exit->St->Prop}{s:St}{i:Nat}:KS P N b K (.exit i) s=K (.exit i) s:=daa rfl rfl
theorem uW{b:C}{K:Exit->St->Prop}{s:St}:KS P N b K .ret s=K .ret s:=daa rfl rfl
def KB(id:Nat) (K:Exit->St->Prop) (e:Exit) (s':St):Prop:=match e with|.exit id'=>if id'=id then K .normal s' else K (.exit id') s'|e=>K e s'
theorem tL{id:Nat}{K:Exit->St->Prop}{s:St}:KB id K .normal s=K .normal s:=daa rfl rfl
theorem FR{id:Nat}{K:Exit->St->Prop}{s:St}{i:Nat}:KB id K (.exit i) s=if i=id then K .normal s else K (.exit i) s:=daa rfl rfl
theorem pW{id:Nat}{K:Exit->St->Prop}{s:St}:KB id K .ret s=K .ret s:=daa rfl rfl
@[congr] theorem G8{c:C} {K:Exit->St->Prop} {s s':St} (h:s=s'):Tm.T P N c K s=Tm.T P N c K s':=by rw[h]
section
variable {l:List RI} {K:St->Prop} {s:St} {dst:Option Tmp} {i:I} {q:Nat} {f:Cal} {args:List Operand} {g:Tmp×Bool}
theorem wN:wh P [] K s=K s:=daa rfl rfl
theorem oK:wh P (.op dst none i::l) K s=jt (la s i) (KO (wh P l K) s dst):=daa rfl rfl
theorem yN:wh P (.op dst (some g) i::l) K s =
 match gate s (some g)with
 |none=>False
 |some none=>jt (la s i) (KO (wh P l K) s dst)
 |some (some (c,b))=>gP (c=b) (jt (la (FG s (some g) b) i) (KO (wh P l K) (FG s (some g) b) dst)) (wh P l K ((FG s (some g) (!b)).put dst (.v undef))):=daa rfl rfl
theorem vL{k:FuncId}{first caps:List D}(hf:s.ec f=.fn k first caps):wh P (.call dst none f args::l) K s=lg P k (first++args.map s.ev++caps) s.m (KO (wh P l K) s dst):=by
 simp only[wh,hf,gate]
theorem xC{k:FuncId}:wh P (.call dst none (.func k) args::l) K s=lg P k (args.map s.ev) s.m (KO (wh P l K) s dst):=by
 rw[vL (k:=k) (first:=[]) (caps:=[]) rfl,Xaa,Naa]
theorem gH{k:FuncId}:wh P (.call dst (some g) (.func k) args::l) K s =
 match gate s (some g)with
 |none=>False
 |some none=>lg P k (args.map s.ev) s.m (KO (wh P l K) s dst)
 |some (some (c,b))=>gP (c=b) (lg P k (args.map (FG s (some g) b).ev) s.m (KO (wh P l K) (FG s (some g) b) dst)) (wh P l K ((FG s (some g) (!b)).put dst (.v undef))):=by
 simp only[wh,St.ec,St.ev,Xaa,Naa]
theorem tN:vx P 0 l K s=wh P l K s:=by simp only[vx]
theorem rN:vx P (q+1) (.op dst none i::l) K s=jt (la s i) (KO (vx P q l K) s dst):=daa rfl rfl
theorem DR:vx P (q+1) (.op dst (some g) i::l) K s =
 match gate s (some g)with
 |none=>False
 |some none=>jt (la s i) (KO (vx P q l K) s dst)
 |some (some (c,b))=>gP (c=b) (jt (la s i) (KO (vx P q l K) s dst)) (vx P q l K (s.put dst (.v undef))):=daa rfl rfl
def lF(P:Program) (k:FuncId) (ds:List D) (R:St->Prop) (s:St) (dst:Option Tmp):Prop:=∃d,(∀m,CallT P k ds m λd' m'=>d'=d/\m'=m)/\R (s.put dst d)
theorem YE{k:FuncId}:vx P (q+1) (.call dst none (.func k) args::l) K s=lF P k (args.map s.ev) (vx P q l K) s dst:=by
 simp only[vx,St.cv,St.ev,Xaa,Naa,lF,gate]
theorem OI{k:FuncId}:vx P (q+1) (.call dst (some g) (.func k) args::l) K s =
 match gate s (some g)with
 |none=>False
 |some none=>lF P k (args.map s.ev) (vx P q l K) s dst
 |some (some (c,b))=>gP (c=b) (lF P k (args.map s.ev) (vx P q l K) s dst) (vx P q l K (s.put dst (.v undef))):=by
 simp only[vx,St.cv,St.ev,Xaa,Naa,lF,gP]
variable {K':Exit->St->Prop} {a b:C} {c:Operand} {id:Nat} {cuts:List Nat} {bs:List (List Nat)}
end
def At(s' S:St):Prop:=Tc s'.t S.t/\∃g,s'.m=S.m++g
theorem At.mk(t t':List D) (m g:List Ent) (h:Tc t t'):At ⟨t,m++g⟩ ⟨t',m⟩:=⟨h,g,rfl⟩
theorem At.same(t t':List D) (m:List Ent) (h:Tc t t'):At ⟨t,m⟩ ⟨t',m⟩:=⟨h,[],by simp⟩
def Fit(N:Nat) (s:St):Prop:=N<=s.m.length/\belows s.m.length s.t=true/\s.m.all (Ent.below s.m.length)=true
def AW(N:Nat) (K:Exit->St->Prop):Prop:=∀s s',At s' s->Fit N s->K .normal s->K .normal s'
def oL(N:Nat) (K:Exit->St->Prop) (e:Exit) (s:St):Prop:=∀(G:Gh) (w:World) (a:Act),N<=G.n->Rel G w a s->∃s' G',K e s'/\Rel G' w a s'/\StepN N G w s.m G' w s'.m
theorem oL.of{K:Exit->St->Prop}{e:Exit}{s:St}(h:K e s):oL N K e s:=λG w a hN hr=>⟨s,G,h,hr,StepN.refl _ _ _ hN⟩
theorem T.J0{c:C}{K:Exit->St->Prop}{s:St}(h:Tm.T P N c (oL N K) s):Tm.T P N c K s:=by
 intro code hc G w a hN hr;refine Code.wp_mono ?_ (h code hc G w a hN hr);rintro e a' w' ⟨s',G',hK,hr',hs'⟩;obtain⟨s'',G'',k1,k2,k3⟩:=hK G' w' a' hs'.n hr';exact⟨s'',G'',k1,k2,hs'.trans k3⟩
theorem T.at{c:C}{K:Exit->St->Prop}{s S:St}(hs:At s S) (hb:Fit N S) (h:Tm.T P N c K S):Tm.T P N c K s:=by
 obtain⟨h1,g,h2⟩:=hs;obtain⟨b1,b2,b3⟩:=hb;refine T.sub S.t h1 ?_;refine T.trim S.m.length b1 (by grind) b2 (by simp_all) ?_
 simp_all
theorem T.Dy{a b:C}{K:Exit->St->Prop}{s:St}(h:Tm.T P N a (KS P N b K) s):Tm.T P N (.seq a b) K s:=T.seq (h.mono λe s' h'=>by cases e<;>exact h')
theorem aR{b:C}{K:Exit->St->Prop}:AW N (KS P N b K):=λs s' h1 h2 h3=>T.at h1 h2 h3
def KM{X:Type}(id:Nat) (K:Exit->St->Prop) (S:X->St) (cu fin:X->Prop) (μ:X->Nat) (y:X) (e:Exit) (s':St):Prop:=
 match e with|.normal=>∃z,cu z/\μ z<μ y/\At s' (S z)|.exit j=>if j=id then(∃z,fin z/\At s' (S z))else K (.exit j) s'|e=>K e s'
section
variable {X:Type} {id:Nat} {K:Exit->St->Prop} {S:X->St} {cu fin:X->Prop} {μ:X->Nat} {y:X} {s':St}
theorem nK{j:Nat}:KM id K S cu fin μ y (.exit j) s'=if j=id then(∃z,fin z/\At s' (S z))else K (.exit j) s':=daa rfl rfl
end
def KI(id n:Nat) (K:Exit->St->Prop) (S:Nat->St) (i:Nat) (e:Exit) (s':St):Prop:=
 match e with|.normal=>i<n/\At s' (S (i+1))|.exit j=>if j=id then i=n/\At s' (S n)else K (.exit j) s'|e=>K e s'
section
variable {id n i:Nat} {K:Exit->St->Prop} {S:Nat->St} {s':St}
theorem Kt:KI id n K S i .normal s'=(i<n/\At s' (S (i+1))):=daa rfl rfl
theorem PF{j:Nat}:KI id n K S i (.exit j) s'=if j=id then i=n/\At s' (S n)else K (.exit j) s':=daa rfl rfl
end
theorem T.S8{id:Nat}{x:C}{K:Exit->St->Prop}{s:St}{X:Type}(S:X->St) (cu fin:X->Prop) (μ:X->Nat) (x₀:X) (h0:cu x₀) (hs:At s (S x₀))
 (hb:∀y,cu y\/fin y->Fit N (S y))
 (round:∀y,cu y->Tm.T P N x (KM id K S cu fin μ y) (S y))
 (hst:(∃z,fin z)->AW N K) (rest:∀z,fin z->K .normal (S z)):Tm.T P N (.block id (.loop x)) K s:=by
 refine T.at hs (hb x₀ (.inl h0)) ?_;refine T.block (T.n7 S cu μ x₀ h0 (Tc.ru _) rfl (λy hy=>hb y (.inl hy)) λy hy=>(round y hy).mono ?_);intro e s' h
 cases e with
 |normal=>obtain⟨z,h1,h2,h3,h4⟩:=h;grind
 |exit j=>
  simp only[nK]at h⊢;split at h
  .rename_i hj;rw[if_pos hj];obtain⟨z,hz,h1⟩:=h;exact hst ⟨z,hz⟩ (S z) s' h1 (hb z (.inr hz)) (rest z hz)
  simp_all
 |_=>exact h
theorem T.A0{id:Nat}{x:C}{K:Exit->St->Prop}{s:St}(n:Nat) (S:Nat->St) (hs:At s (S 0)) (hb:∀i,i<=n->Fit N (S i))
 (round:∀i,i<=n->Tm.T P N x (KI id n K S i) (S i))
 (hst:AW N K) (rest:K .normal (S n)):Tm.T P N (.block id (.loop x)) K s:=by
 refine T.S8 (X:=Nat) S (λi=>i<=n) (λi=>i=n) (λi=>n-i) 0 (Bab _) hs (λy hy=>hb y (by omega)) (λi hi=>(round i hi).mono ?_) (λ_=>hst) (λz hz=>by simp_all);intro e s' h
 cases e with
 |normal=>
  simp only[Kt]at h;exact⟨i+1,h.1,by grind,h.2⟩
 |exit j=>
  simp only[PF,nK]at h⊢
  grind
 |_=>exact h
theorem qR(d:D):ym [d]=d:=daa rfl rfl
theorem pR:ym []=.tup []:=daa rfl rfl
theorem rR(d e:D) (l:List D):ym (d::e::l)=.tup (d::e::l):=daa rfl rfl
theorem DN{c:Prop} [Decidable c] (p:D×List Ent) (f:D->List Ent->Prop):jt (if c then some p else none) f=(c/\f p.1 p.2):=by
 by_cases h:c<;>simp[h,jt]
theorem qT{α β:Type}{c:Prop} [Decidable c] (a:α) (g:α->β):(if c then some a else none:Option α).map g=if c then some (g a)else none:=by
 simp
theorem uR{n:Int}(h:-9223372036854775808<=n/\n<=9223372036854775807):ea .i64 n=n:=by
 grind[zu,IntKind.wrap_i64]
section
variable {k:Nat} {m:List Ent} {id Ja S lo n:Nat} {l:List D}
end
theorem F0:((0:Nat):Int)=0:=daa rfl rfl
theorem KP(b:Bool):Ff (Op.unary .not (.bool b))=some (.bool (!b)):=daa rfl rfl
theorem PR{k:Nat}{a b:List D}(ha:belows k a=true) (hb:belows k b=true):belows k (a++b)=true:=by
 induction a with
 |nil=>grind
 |cons d a ih=>
  simp_all[belows]
theorem zT(k:IntKind) (n:Int):Ff (Op.unary .neg (.int k n))=some (.int k (ea k (-n))):=by
 show some (Value.int k (k.wrap (0-n)))=_
 grind[zu]
theorem rT(k:IntKind) (a b:Int):Ff (Builtin.max_ #[] 0 [Value.int k a,Value.int k b].toArray)=some (.int k (max a b)):=by
 simp only[Builtin.max_,Ff,yad,bind_pure,Builtin.max2];by_cases h:a<b
 .rw[if_pos h,Int.max_eq_right (by omega)];rfl
 .rw[if_neg h,Int.max_eq_left (by omega)];rfl
theorem uT(k:IntKind) (a b:Int):Ff (Builtin.min_ #[] 0 [Value.int k a,Value.int k b].toArray)=some (.int k (min a b)):=by
 simp only[Builtin.min_,Ff,yad,bind_pure,Builtin.min2];by_cases h:b<a
 .rw[if_pos h,Int.min_eq_right (by omega)];rfl
 .rw[if_neg h,Int.min_eq_left (by omega)];rfl
section
variable {α:Type} {l b c:List α} {a a' x:α}
end
open Go.RowKit (Below)
open Go.WideShapes
inductive Sh where
 |bool
 |int (k:IntKind)
 |str
 |sl (S:Nat) (A:Bool) (e:Sh)
 |cat (l:List Sh)
def aggT(P:Program) (t:TypeId):Bool:=
 match P.underlying t with
 |some (.struct _)=>true
 |some (.array _ _)=>true
 |_=>false
def jq(f:TypeId->Option Sh) (P:Program):List Field->Nat->Option (List Sh×Nat)
 |[],off=>some ([],off)
 |g::gs,off=>
  if g.offset=off then
   match f g.type,jq f P gs (off+P.cellsOf g.type)with
   |some s,some (l,e)=>some (s::l,e)
   |_,_=>none
  else none
def shOf(P:Program):Nat->TypeId->Option Sh
 |0,_=>none
 |n+1,t=>
  match P.underlying t with
  |some .bool=>some .bool
  |some (.int k)=>some (.int k)
  |some .string=>some .str
  |some (.slice e)=>if 0<P.cellsOf e/\0<P.bytesOf e then(shOf P n e).map λs=>.sl (P.cellsOf e) (aggT P e) s else none
  |some (.struct fs)=>
   match jq (shOf P n) P fs.toList 0 with
   |some (l,e)=>if e=P.cellsOf t then some (.cat l)else none
   |none=>none
  |some (.array k e)=>if P.cellsOf t=k*P.cellsOf e then(shOf P n e).map λs=>.cat (gaa k s)else none
  |_=>none
def Kq(A:Bool) (cs:List D):D:=bif A then .agg cs else cs.headD .dead
mutual
def Rl:Sh->List D->Prop
 |.bool,ds=>∃b,ds=[.v (.bool b)]
 |.int k,ds=>∃n,ds=[.v (.int k n)]/\(Lit.int k n).wf=true
 |.str,ds=>∃s:ByteArray,ds=[.v (.string s)]/\s.size<=maxLen
 |.sl S A e,ds=>∃l,ds=[.sl S l]/\l.length<=140737488355328/\∀d∈l,∃cs,Rl e cs/\d=Kq A cs
 |.cat l,ds=>Gs l ds
def Gs:List Sh->List D->Prop
 |[],ds=>ds=[]
 |s::l,ds=>∃a b,ds=a++b/\Rl s a/\Gs l b
end
theorem UA{G:Gh}{w:World}:∀{a b:List D}{us vs:List Value},VsRel G w a us->VsRel G w b vs->VsRel G w (a++b) (us++vs)
 |[],b,us,vs,h1,h2=>by simp only[VsRel]at h1;simp_all
 |d::a,b,us,vs,h1,h2=>by
  simp only[VsRel]at h1;obtain⟨u,r,rfl,k1,k2⟩:=h1;simp only[Haa,VsRel];exact⟨u,_,rfl,k1,UA k2 h2⟩
theorem CB{f:TypeId->Option Sh}{P:Program}:∀{fs:List Field}{off:Nat}{l:List Sh}{e:Nat},jq f P fs off=some (l,e)->off<=e
 |[],off,l,e,h=>by grind[jq]
 |g::gs,off,l,e,h=>by
  simp only[jq]at h;split at h
  .split at h
   .rename_i s l' e' h1 h2;simp at h;have:=CB h2;omega
   .cases h
  .cases h
def R0(w:World):Gh:=Gh.bare λb=>b<w.heap.size
theorem tH{w:World}{a:Addr}{v:Value}(h:w.cell? a=some v):a.block<w.heap.size:=by
 grind[World.cell?]
section
variable {H:Type} {enc:TypeId×Value->H} {P:Program} {w:World} {base:Nat} {spare:Nat->Bool} {held:Bool}
theorem Bq{P:Program}{e:TypeId}:∀{l:List (DataW H)}{d:DataW H},d∈l->∀n∈d.weights P e,n∈DataW.weightsAll P e l
 |[],_,h=>by cases h
 |x::l,d,h=>by
  intro n hn;simp only[DataW.weightsAll,bab];rcases gab.1 h with rfl|h
  .simp_all
  .exact .inr (Bq h n hn)
theorem dB{n fuel:Nat}{cs:List Value}(ih:∀t cs x s,shOf P n t=some s->DataW.trod enc P w base spare held fuel t cs=some x->(∀n∈x.1.weights P t,n<=reachBytes)->∃ds,Rl s ds/\VsRel (R0 w) w ds cs/\∀c∈cs,one c=true) :
 ∀(fs:List Field) (off:Nat) (l:List Sh) (e:Nat),jq (shOf P n) P fs off=some (l,e)->
  (∀f∈fs,∃x,DataW.trod enc P w base spare held fuel f.type ((cs.drop f.offset).take (P.cellsOf f.type))=some x/\∀n∈x.1.weights P f.type,n<=reachBytes)->
  ∃ds,Gs l ds/\VsRel (R0 w) w ds ((cs.drop off).take (e-off))/\∀c∈(cs.drop off).take (e-off),one c=true
 |[],off,l,e,h,_=>by
  simp[jq]at h;obtain⟨rfl,rfl⟩:=h;refine⟨[],by simp[Gs],by simp[VsRel],by simp⟩
 |g::gs,off,l,e,h,hx=>by
  simp only[jq]at h;split at h
  .rename_i hoff;split at h
   .rename_i s l' e' h1 h2;simp only[Maa,xaa]at h;obtain⟨rfl,rfl⟩:=h;obtain⟨x,hx0,hw0⟩:=hx g (by simp);obtain⟨a,k1,k2,k3⟩:=ih _ _ _ _ h1 hx0 hw0;obtain⟨b,m1,m2,m3⟩:=dB ih gs _ _ _ h2 λf hf=>hx f (by grind);have hle:=CB h2;have heq:(cs.drop off).take (e'-off)=(cs.drop g.offset).take (P.cellsOf g.type)++(cs.drop (off+P.cellsOf g.type)).take (e'-(off+P.cellsOf g.type)):=by
     rw[show e'-off=P.cellsOf g.type+(e'-(off+P.cellsOf g.type)) by omega,List.take_add,Cac,hoff]
    rw[heq];refine⟨a++b,by simp only[Gs];grind,UA k2 m2,λc hc=>?_⟩
    grind
   .cases h
  .cases h
theorem qI{n fuel S:Nat}{cs:List Value}{e:TypeId}{s:Sh}(ih:∀cs x,DataW.trod enc P w base spare held fuel e cs=some x->(∀n∈x.1.weights P e,n<=reachBytes)->∃ds,Rl s ds/\VsRel (R0 w) w ds cs/\∀c∈cs,one c=true) :
 ∀(k i:Nat),(∀j,i<=j->j<i+k->∃x,DataW.trod enc P w base spare held fuel e ((cs.drop (j*S)).take S)=some x/\∀n∈x.1.weights P e,n<=reachBytes)->
  ∃ds,Gs (gaa k s) ds/\VsRel (R0 w) w ds ((cs.drop (i*S)).take (k*S))/\∀c∈(cs.drop (i*S)).take (k*S),one c=true
 |0,i,_=>⟨[],by simp[Gs],by simp[VsRel],by simp⟩
 |k+1,i,hx=>by
  obtain⟨x,hx0,hw0⟩:=hx i (oaa _) (by omega);obtain⟨a,k1,k2,k3⟩:=ih _ _ hx0 hw0;obtain⟨b,m1,m2,m3⟩:=qI (n:=n) ih k (i+1) λj h1 h2=>hx j (by omega) (by omega);have heq:(cs.drop (i*S)).take ((k+1)*S)=(cs.drop (i*S)).take S++(cs.drop ((i+1)*S)).take (k*S):=by
   grind[Nat.succ_mul,Cac]
  rw[heq];refine⟨a++b,by simp only[cab,Gs];grind,UA k2 m2,λc hc=>?_⟩
  grind
theorem LI{A:Bool}{ds:List D}{cs:List Value}(h:VsRel (R0 w) w ds cs) (h1:∀c∈cs,one c=true) (hA:A=false->cs.length=1) :
 ∃u:Value,VRel (R0 w) w (Kq A ds) u/\u.cells=cs.toArray/\(A=true->u=.agg cs.toArray)/\(A=false->∃c,cs=[c]/\u=c):=by
 cases A with
 |true=>exact⟨.agg cs.toArray,by simp only[Kq,cond_true,VRel];simp_all,rfl,λ_=>rfl,λh=>by cases h⟩
 |false=>
  match cs,hA rfl with
  |[c],_=>
   match ds,h with
   |d::r,h=>
    simp only[VsRel]at h;obtain⟨u,us,hu,hv,hr⟩:=h;injection hu with hu1 hu2;subst hu1;have h1c:=h1 c (by simp);have hcells:c.cells=[c].toArray:=by cases c<;>simp[one]at h1c<;>rfl
    exact⟨c,by grind[Kq],hcells,λh=>Bool.noConfusion h,λ_=>⟨c,rfl,rfl⟩⟩
theorem QQ{n:Nat}{t:TypeId}{s:Sh}(h:shOf P n t=some s) {fuel:Nat}{cs:List Value}{x:DataW H×List MemPlace}(hx:DataW.trod enc P w base spare held fuel t cs=some x):aggT P t=false->cs.length=1:=by
 intro hA
 cases n with
 |zero=>grind[shOf]
 |succ n=>
  simp only[shOf]at h;simp only[aggT]at hA;split at h
  .rename_i hu;obtain⟨b,rfl,_⟩:=DataW.trod_bool hu hx;rfl
  .rename_i hu;obtain⟨b,rfl,_⟩:=DataW.trod_int hu hx;rfl
  .rename_i hu;obtain⟨b,rfl,_⟩:=DataW.trod_string hu hx;rfl
  .rename_i hu;rcases DataW.trod_slice hu hx with⟨rfl,_⟩|⟨a,len,cap,elems,rest,m,_,rfl,_⟩<;>rfl
  all_goals simp_all
theorem Rw:∀(n:Nat) (fuel:Nat) (t:TypeId) (cs:List Value) (x:DataW H×List MemPlace) (s:Sh),shOf P n t=some s->DataW.trod enc P w base spare held fuel t cs=some x->(∀n∈x.1.weights P t,n<=reachBytes)->
 ∃ds,Rl s ds/\VsRel (R0 w) w ds cs/\∀c∈cs,one c=true
 |0,fuel,t,cs,x,s,h,_,_=>by grind[shOf]
 |n+1,fuel,t,cs,x,s,h,hx,hwt=>by
  simp only[shOf]at h;split at h
  .rename_i hu;injection h with h;subst h;obtain⟨b,rfl,_⟩:=DataW.trod_bool hu hx;exact⟨[.v (.bool b)],by simp only[Rl];simp,by simp[VsRel,VRel],by simp[one]⟩
  .rename_i k hu;injection h with h;subst h;obtain⟨b,rfl,_,hw⟩:=DataW.trod_int hu hx;exact⟨[.v (.int k b)],by simp only[Rl];simp_all,by simp[VsRel,VRel],by simp[one]⟩
  .rename_i hu;injection h with h;subst h;obtain⟨b,rfl,_,hw⟩:=DataW.trod_string hu hx;exact⟨[.v (.string b)],by simp only[Rl];simp_all,by simp[VsRel,VRel],by simp[one]⟩
  .rename_i e hu;split at h
   .rename_i hpos;simp only[eaa]at h;obtain⟨se,hse,rfl⟩:=h;rcases DataW.trod_slice hu hx with⟨rfl,_⟩|⟨a,len,cap,elems,rest,m,_,rfl,rfl,hb,hl,hm,hlen,hel,_,_⟩
    .refine⟨[.sl (P.cellsOf e) []],by simp only[Rl];simp,?_,by simp[one]⟩;simp only[VsRel,VRel]
     grind
    .simp only[DataW.weights,hu,gab,bab]at hwt;have hlb:=hwt _ (.inl rfl);have hle:len<=140737488355328:=by
      simp only[nab]at hlb;have h1:=Nat.le_mul_of_pos_right (elems.length+rest.length) hpos.2
      grind[reachBytes]
     have each:∀i,i<len->∃d u,(∃cs,Rl se cs/\d=Kq (aggT P e) cs)/\VRel (R0 w) w d u/\u.cells.size=P.cellsOf e/\(∀j c,u.cells[j]?=some c->one c=true/\w.cell? ((a.add (i*P.cellsOf e)).add j)=some c):=by
      intro i hi;have h1:=hel i hi;rw[caa (by omega)]at h1;obtain⟨ecs,k1,k2⟩:=pab.1 h1;obtain⟨ds,m1,m2,m3⟩:=Rw n _ _ _ _ _ hse k2 (λq hq=>hwt q (.inr (.inl (Bq (Wac (iaa _)) q hq))));obtain⟨_,q1,q2⟩:=World.cells?_some k1;obtain⟨u,r1,r2,_,_⟩:=LI (A:=aggT P e) m2 m3 (QQ hse k2)
      grind
     have hrow:∀k,k<=len->∃l:List D,l.length=k/\(∀d∈l,∃cs,Rl se cs/\d=Kq (aggT P e) cs)/\∀(i:Nat) d,l[i]?=some d->∃u,VRel (R0 w) w d u/\u.cells.size=P.cellsOf e/\(∀j c,u.cells[j]?=some c->one c=true/\w.cell? ((a.add (i*P.cellsOf e)).add j)=some c):=by
      intro k
      induction k with
      |zero=>simp
      |succ k ih=>
       intro hk;obtain⟨l,l1,l2,l3⟩:=ih (by omega);obtain⟨d,u,d1,d2,d3,d4⟩:=each k (by omega);refine⟨l++[d],by grind,λd' hd'=>?_,λi d' hd'=>?_⟩
       all_goals grind
     obtain⟨l,l1,l2,l3⟩:=hrow len (oaa _);refine⟨[.sl (P.cellsOf e) l],by simp only[Rl];simp_all,?_,by simp[one]⟩;simp only[VsRel,VRel];refine⟨_,_,rfl,⟨some a,len,cap,rfl,l1.symm,hl,?_⟩,rfl⟩
     cases l with
     |nil=>simp
     |cons d0 l'=>
      obtain⟨u0,_,us,uc⟩:=l3 0 d0 rfl;have h0:∃c,u0.cells[0]?=some c:=⟨u0.cells[0]'(by omega),Array.getElem?_eq_getElem (by omega)⟩;obtain⟨c,hc⟩:=h0;have hc2:=(uc 0 c hc).2;have hadd:(a.add (0*P.cellsOf e)).add 0=a:=by simp[Addr.add]
      rw[hadd]at hc2;obtain⟨b,off,spot⟩:=a;have hspot:spot=none:=by simpa using World.cell?_spot hc2
      subst hspot;refine .inr ⟨b,off,rfl,tH hc2,?_⟩;rw[Md];intro i d hd;obtain⟨u,u1,u2,u3⟩:=l3 i d hd;refine⟨u,u1,u2,λj c hj=>?_⟩;obtain⟨c1,c2⟩:=u3 j c hj;refine⟨c1,?_⟩;have haddr:(Addr.add (Addr.add ⟨b,off,none⟩ (i*P.cellsOf e)) j)=⟨b,off+i*P.cellsOf e+j,none⟩:=by
       unfold Addr.add
       grind
      simp_all
   .cases h
  .rename_i fs hu;split at h
   .rename_i l e hsf;split at h
    .rename_i he;injection h with h;subst h;obtain⟨xs,m,rfl,rfl,hlen,hxl,hget⟩:=DataW.trod_struct hu hx;simp only[DataW.weights,hu]at hwt;obtain⟨ds,k1,k2,k3⟩:=dB (n:=n) (fuel:=m) (cs:=cs) (λt cs x s h1 h2 h3=>Rw n _ _ _ _ _ h1 h2 h3) fs.toList 0 l e hsf (λf hf=>by
      obtain⟨i,hi,hfi⟩:=List.mem_iff_getElem.1 hf;have hi':i<fs.size:=by omega
      have:=hget i f (by simp_all);rw[caa (by omega)]at this;exact⟨_,this,λq hq=>hwt q (DataW.weights_mem_each (j:=i) (t:=f.type) (d:=(xs[i]'(by omega)).1) (by simp_all) (by simp_all) q hq)⟩)
     rw[iac,kac,he,←hlen,wab]at k2 k3;exact⟨ds,by simp only[Rl];omega,k2,k3⟩
    .cases h
   .cases h
  .rename_i k e hu;split at h
   .rename_i he;simp only[eaa]at h;obtain⟨se,hse,rfl⟩:=h;obtain⟨xs,m,rfl,rfl,hlen,hxl,hget⟩:=DataW.trod_array hu hx;simp only[DataW.weights,hu]at hwt;obtain⟨ds,k1,k2,k3⟩:=qI (n:=n) (fuel:=m) (S:=P.cellsOf e) (cs:=cs) (e:=e) (s:=se) (λcs x h2 h3=>Rw n _ _ _ _ _ hse h2 h3) k 0 (λj _ hj=>by
     grind[Bq,Wac,iaa])
    rw[Nat.zero_mul,iac,←he,←hlen,wab]at k2 k3;exact⟨ds,by simp only[Rl];omega,k2,k3⟩
   .cases h
  .cases h
def LookV(A:Bool) (s:Sh) (d:D):Prop:=∃ds,Rl s ds/\d=Kq A ds
theorem arg_tree{n:Nat}{t:TypeId}{s:Sh}{v:Value}{d:DataW H}{p:List MemPlace}{r:Reach}{b0:Nat}(h:shOf P n t=some s) (hx:DataW.Trod enc P w base spare held t v d p) (hv:Value.okWide P w r b0 t v) (hwt:∀n∈d.weights P t,n<=reachBytes) :
 ∃d',LookV (aggT P t) s d'/\VRel (R0 w) w d' v:=by
 obtain⟨fuel,hx⟩:=hx;obtain⟨ds,k1,k2,k3⟩:=Rw n _ _ _ _ _ h hx hwt;obtain⟨u,u1,u2,u3,u4⟩:=LI (A:=aggT P t) k2 k3 (QQ h hx);refine⟨Kq (aggT P t) ds,⟨ds,k1,rfl⟩,?_⟩;have:u=v:=by
  cases hA:aggT P t with
  |true=>
   rw[u3 hA];unfold aggT at hA;split at hA
   .rename_i hu;simp only[Value.okWide,hu]at hv;obtain⟨cs,rfl,_⟩:=hv;simp[Value.cells]
   .rename_i hu;simp only[Value.okWide,hu]at hv;obtain⟨cs,rfl,_⟩:=hv;simp[Value.cells]
   simp_all
  |false=>
   obtain⟨c,hc,rfl⟩:=u4 hA
   cases n with
   |zero=>grind[shOf]
   |succ n=>
    simp only[shOf]at h;unfold aggT at hA;split at h
    .rename_i hu;obtain⟨b,rfl⟩:=okWide_bool hu hv;grind[Value.cells]
    .rename_i hu;obtain⟨b,rfl⟩:=okWide_int hu hv;grind[Value.cells]
    .rename_i hu;obtain⟨b,rfl⟩:=okWide_string hu hv;grind[Value.cells]
    .rename_i hu;obtain⟨a,l,c',rfl⟩:=okWide_slice hu hv;grind[Value.cells]
    all_goals simp_all
 simp_all
end
theorem zI{G G':Gh}{w w':World}{m':List Ent}(h:Step G w [] G' w' m'):Below w.heap.size w w':=
 ⟨h.os,h.tape,h.output,h.size,λk hk=>h.keep k hk λ⟨i,e,he,_⟩=>by simp at he⟩
theorem gok_tab{P:Program}{W:World}{name:String}(hg:P.globalNamed name=some 2) (hT:Go.Lib.TabIs P W name .i64 [31,28,31,30,31,30,31,31,30,31,30,31]):GOK (R0 W) W:=by
 intro g d h;unfold gtab at h;split at h
 .injection h with h;subst h;have hc:=hT.cell hg;refine(by
   simp only[VRel];refine⟨2,0,.agg (([31,28,31,30,31,30,31,31,30,31,30,31]:List Int).map λn=>Value.int .i64 n).toArray,rfl,?_,⟨_,rfl,?_,?_⟩,?_⟩
   .exact tH (a:=⟨2,0,none⟩) (hc 0 (by decide))
   .simp only[Gaa,Fab,VsRel,VRel];simp
   .intro c hc;simp only[Gaa,Fab,gab,List.not_mem_nil,or_false]at hc;rcases hc with rfl|rfl|rfl|rfl|rfl|rfl|rfl|rfl|rfl|rfl|rfl|rfl<;>rfl
   .intro j c hj;have hj':(([31,28,31,30,31,30,31,31,30,31,30,31]:List Int).map λn=>Value.int .i64 n)[j]?=some c:=by grind[Value.cells]
    obtain⟨hlt,hcj⟩:=yaa.1 hj';have hlt':j<([31,28,31,30,31,30,31,31,30,31,30,31]:List Int).length:=by grind
    rw[List.getElem_map]at hcj;subst hcj;refine⟨rfl,?_⟩
    simp_all:VRel (R0 W) W (.pt (.agg ([31,28,31,30,31,30,31,31,30,31,30,31].map λn=>.v (.int .i64 n)))) (.pointer (some ⟨2,0,none⟩)))
 .cases h
theorem law_walk{P:Program}{f:FuncId}{ds:List D}{vs:List Value}{w:World}(h:CallT P f ds [] λd _=>d=.v (.bool true)) (hv:VsRel (R0 w) w ds vs) (hg:GOK (R0 w) w) :
 Calls P f vs.toArray w λe w'=>e=.returned (.bool true)/\Below w.heap.size w w':=by
 refine(h.2 (R0 w) w vs hv (vz (λ_ h=>h) hg)).mono ?_;rintro e w' ⟨v,d,m',G',rfl,rfl,hvd,-,hs⟩;simp only[VRel]at hvd;subst hvd;exact⟨rfl,zI hs⟩
variable {P:Program}
theorem LW(op:BinOp) (j k:IntKind) (a b:Int):Ff (binOp op 0 (.int j a) (.int k b))=Ln op j a k b:=(RR ..).symm
theorem yV(k:IntKind) (n:Int):k.wrap n=ea k n:=(zu k n).symm
variable {P:Program}
abbrev Jo:=List (Option Nat×Nat×Nat)
def jy(ρ:Jo) (j:Nat):Bool:=ρ.all λo=>match o.1 with|some k=>k !=j|none=>true
inductive Sbs (ρ:Jo) (m:List Ent):List D->List D->Prop
 |nil:Sbs ρ m [] []
 |same {d l r} (hf:na d=true) (h:Sbs ρ m l r):Sbs ρ m (d::l) (d::r)
 |dead {d l r} (h:Sbs ρ m l r):Sbs ρ m (d::l) (.dead::r)
 |nils {S l r} (h:Sbs ρ m l r):Sbs ρ m (.v (.slice none 0 0)::l) (.sl S []::r)
 |adopt {S u l r} (i:Nat) (hi:ρ[i]?=some (none,S,u)) (h:Sbs ρ m l r):Sbs ρ m (.v (.slice none 0 0)::l) (.own i u::r)
 |agg {a b l r} (ha:Sbs ρ m a b) (h:Sbs ρ m l r):Sbs ρ m (.agg a::l) (.agg b::r)
 |tup {a b l r} (ha:Sbs ρ m a b) (h:Sbs ρ m l r):Sbs ρ m (.tup a::l) (.tup b::r)
 |sl {S a b l r} (ha:Sbs ρ m a b) (h:Sbs ρ m l r):Sbs ρ m (.sl S a::l) (.sl S b::r)
 |own {j v u i l r} (hi:ρ[i]?=some (some j,v,u)) (h:Sbs ρ m l r):Sbs ρ m (.own j v::l) (.own i u::r)
 |ref {j v u i x s l r} (hi:ρ[i]?=some (some j,v,u)) (h:Sbs ρ m l r):Sbs ρ m (.ref j v x s::l) (.ref i u x s::r)
 |view {j v u i lo n l r} (hi:ρ[i]?=some (some j,v,u)) (h:Sbs ρ m l r):Sbs ρ m (.view j v lo n::l) (.view i u lo n::r)
 |mp {j i l r} (hi:ρ[i]?=some (some j,0,0)) (h:Sbs ρ m l r):Sbs ρ m (.mp j::l) (.mp i::r)
 |Cd {S j v a b l r} (hm:m[j]?=some (.live S v a)) (ho:jy ρ j=true) (ha:Sbs ρ m a b) (h:Sbs ρ m l r):Sbs ρ m (.own j v::l) (.sl S b::r)
 |fview {S j v lo n a b l r} (hm:m[j]?=some (.live S v a)) (ho:jy ρ j=true) (hn:lo+n<=a.length) (ha:Sbs ρ m ((a.drop lo).take n) b) (h:Sbs ρ m l r):Sbs ρ m (.view j v lo n::l) (.sl S b::r)
 |fref {S j v x a d e l r} (hm:m[j]?=some (.live S v a)) (ho:jy ρ j=true) (hx:a[x]?=some d) (ha:Sbs ρ m [d] [e]) (h:Sbs ρ m l r):Sbs ρ m (.ref j v x 0::l) (.pt e::r)
 |pt {d e l r} (ha:Sbs ρ m [d] [e]) (h:Sbs ρ m l r):Sbs ρ m (.pt d::l) (.pt e::r)
 |fn {f a b c d l r} (ha:Sbs ρ m a b) (hc:Sbs ρ m c d) (h:Sbs ρ m l r):Sbs ρ m (.fn f a c::l) (.fn f b d::r)
 |ifc {t d e l r} (ha:Sbs ρ m [d] [e]) (h:Sbs ρ m l r):Sbs ρ m (.ifc t d::l) (.ifc t e::r)
def BS(es:List (Value×D)):Bool:=es.all λp=>na p.2
inductive Ets (ρ:Jo) (m:List Ent):Jo->List Ent->Prop
 |nil:Ets ρ m [] []
 |live {j v u S l l' os es} (hm:m[j]?=some (.live S v l)) (hl:Sbs ρ m l l') (h:Ets ρ m os es):Ets ρ m ((some j,v,u)::os) (.live S u l'::es)
 |new {S u os es} (h:Ets ρ m os es):Ets ρ m ((none,S,u)::os) (.live S u []::es)
 |mp {j es os ees} (hm:m[j]?=some (.mp es)) (hf:BS es=true) (h:Ets ρ m os ees):Ets ρ m ((some j,0,0)::os) (.mp es::ees)
structure Tell (ρ:Jo) (s S:St):Prop where
 t:Sbs ρ s.m s.t S.t
 m:Ets ρ s.m ρ S.m
 one:(ρ.filterMap (·.1)).Nodup
def Wb(G:Gh) (m:List Ent) (ρ:Jo):Gh where
 F b:=G.F b\/(Qc G m b/\∀(i j:Nat) v,ρ[i]?=some (some j,v)->G.B j≠some b)
 n:=ρ.length
 B i:=match ρ[i]? with|some (some j,_)=>G.B j|_=>none
 V i:=match ρ[i]? with|some (_,_,u)=>u|_=>0
 S i:=match ρ[i]? with|some (some j,_)=>G.S j|some (none,S,_)=>S|_=>0
 N i:=match ρ[i]? with|some (some j,_)=>G.N j|_=>0
 C i:=match ρ[i]? with|some (some j,_)=>G.C j|_=>(0,0)
theorem VT{ρ:Jo}{j:Nat}(h:jy ρ j=true):∀(i k:Nat) v,ρ[i]?=some (some k,v)->k≠j:=by
 grind[jy]
theorem RA{G:Gh}{w:World}{m:List Ent}{ρ:Jo}(hi:Inv G w m) (hgo:∀(i j:Nat) v,ρ[i]?=some (some j,v)->∃e:Ent,m[j]?=some e/\e.isLive=true) {j:Nat}{e:Ent}(hm:m[j]?=some e) (hl:e.isLive=true) (ho:jy ρ j=true) {b:Nat}(hb:G.B j=some b):(Wb G m ρ).F b:=by
 refine .inr ⟨⟨j,e,hm,hl,hb⟩,λi k v hik hB=>?_⟩;obtain⟨e',he',hl'⟩:=hgo i k v hik;exact VT ho i k v hik (hi.apart k j e' e he' hm hl' hl b hB hb)
theorem Sbs.length{ρ:Jo}{m:List Ent}{l r:List D}(h:Sbs ρ m l r):l.length=r.length:=by
 induction h<;>simp_all
theorem NA{ρ:Jo}{i:Nat}{o:Option Nat×Nat×Nat}(h:ρ[i]?=some o):i<ρ.length:=by
 grind
theorem Sbs.rel{G:Gh}{w:World}{m:List Ent}{ρ:Jo}(hi:Inv G w m) (hgo:∀(i j:Nat) v,ρ[i]?=some (some j,v)->∃e:Ent,m[j]?=some e/\e.isLive=true/\(∀S v' l,e=.live S v' l->v'=v.1)) {l r:List D}(h:Sbs ρ m l r) :
 (∀us,VsRel G w l us->VsRel (Wb G m ρ) w r us)/\(∀b S off,Sa G w b S l off->Sa (Wb G m ρ) w b S r off):=by
 have hgo':∀(i j:Nat) v,ρ[i]?=some (some j,v)->∃e:Ent,m[j]?=some e/\e.isLive=true:=λi j v h=>by grind
 have both:∀{d e:D} {l r:List D},(∀u,VRel G w d u->VRel (Wb G m ρ) w e u)->
  ((∀us,VsRel G w l us->VsRel (Wb G m ρ) w r us)/\(∀b S off,Sa G w b S l off->Sa (Wb G m ρ) w b S r off))->
  ((∀us,VsRel G w (d::l) us->VsRel (Wb G m ρ) w (e::r) us)/\(∀b S off,Sa G w b S (d::l) off->Sa (Wb G m ρ) w b S (e::r) off)):=by
  intro d e l r h1 h2;refine⟨λus hv=>?_,λb S off hv=>?_⟩
  .simp only[VsRel]at hv⊢
   grind
  .simp only[Sa]at hv⊢
   grind
 have first:∀{d e:D},(∀us,VsRel G w [d] us->VsRel (Wb G m ρ) w [e] us)->∀u,VRel G w d u->VRel (Wb G m ρ) w e u:=by
  intro d e h u hu;have:=h [u] (by simp only[VsRel];simp_all);simp only[VsRel]at this
  simp_all
 induction h with
 |nil=>exact⟨λus h=>by simpa [VsRel] using h,λ_ _ _ _=>by simp[Sa]⟩
 |same hf h ih=>exact both (λu hu=>VRel.free (G':=Wb G m ρ) ⟨λ_ h=>Or.inl h,λ_ _=>rfl⟩ hf hu) ih
 |dead h ih=>exact both (λu _=>by simp[VRel]) ih
 |nils h ih=>exact both (λu hu=>by simp only[VRel]at hu⊢;grind) ih
 |adopt i hi' h ih=>
  refine both (λu hu=>?_) ih;simp only[VRel]at hu⊢;exact⟨none,0,0,hu,NA hi',by grind[Wb],λ_=>by grind[Wb]⟩
 |agg ha h iha ih=>
  refine both (λu hu=>?_) ih;simp only[VRel]at hu⊢
  grind
 |tup ha h iha ih=>
  refine both (λu hu=>?_) ih;simp only[VRel]at hu⊢
  grind
 |sl ha h iha ih=>
  refine both (λu hu=>?_) ih;simp only[VRel]at hu⊢;obtain⟨a,n,cap,rfl,hn,hc,g⟩:=hu;refine⟨a,n,cap,rfl,by rw[←ha.length];omega,hc,?_⟩;rcases g with rfl|⟨b,off,rfl,hF,hr⟩
  .exact .inl (zaa ha.length.symm)
  .exact .inr ⟨b,off,rfl,.inl hF,iha.2 b _ off hr⟩
 |own hi' h ih=>
  refine both (λu hu=>?_) ih;obtain⟨e,he,hl,hv⟩:=hgo _ _ _ hi';simp only[VRel]at hu⊢;obtain⟨a,n,c,rfl,g1,g2,g3⟩:=hu;refine⟨a,n,c,rfl,NA hi',by grind[Wb],λ_=>?_⟩;have hent:=hi.ent _ _ he
  cases e with
  |live S v' l'=>
   obtain⟨a1,_⟩:=hent;have:=g3 (by grind)
   grind[Wb]
  |mp es=>
   obtain⟨a1,_⟩:=hent
   grind[Wb]
  |gone=>grind[Ent.isLive]
 |ref hi' h ih=>
  refine both (λu hu=>?_) ih;obtain⟨e,he,hl,hv⟩:=hgo _ _ _ hi';simp only[VRel]at hu⊢;obtain⟨a,rfl,g1,g2,g3⟩:=hu;refine⟨a,rfl,NA hi',by grind[Wb],λ_=>?_⟩;have hent:=hi.ent _ _ he
  cases e with
  |live S v' l'=>
   obtain⟨a1,_⟩:=hent;have:=g3 (by grind);simpa [Wb,hi'] using this
  |mp es=>
   obtain⟨a1,_⟩:=hent;have:=g3 (by omega);simpa [Wb,hi'] using this
  |gone=>grind[Ent.isLive]
 |view hi' h ih=>
  refine both (λu hu=>?_) ih;obtain⟨e,he,hl,hv⟩:=hgo _ _ _ hi';simp only[VRel]at hu⊢;obtain⟨a,c,rfl,g0,g1,g2,g3⟩:=hu;refine⟨a,c,rfl,g0,NA hi',by grind[Wb],λ_=>?_⟩;have hent:=hi.ent _ _ he
  cases e with
  |live S v' l'=>
   obtain⟨a1,_⟩:=hent;have:=g3 (by grind);simpa [Wb,hi'] using this
  |mp es=>
   obtain⟨a1,_⟩:=hent;have:=g3 (by omega);simpa [Wb,hi'] using this
  |gone=>grind[Ent.isLive]
 |mp hi' h ih=>
  refine both (λu hu=>?_) ih;simp only[VRel]at hu⊢;obtain⟨b,rfl,g1,g2⟩:=hu;obtain⟨e,he,hl,hv⟩:=hgo _ _ _ hi';have hent:=hi.ent _ _ he;refine⟨b,rfl,NA hi',λ_=>?_⟩
  cases e with
  |live S v' l'=>
   obtain⟨a1,_⟩:=hent;have:=g2 (by grind)
   grind[Wb]
  |mp es=>
   obtain⟨a1,_⟩:=hent
   grind[Wb]
  |gone=>grind[Ent.isLive]
 |Cd hm ho ha h iha ih=>
  refine both (λu hu=>?_) ih;obtain⟨a1,a2,a3,a4,a5⟩:=hi.ent _ _ hm;simp only[VRel]at hu⊢;obtain⟨a,n,c,rfl,g1,g2,g3⟩:=hu;obtain⟨rfl,rfl,rfl⟩:=g3 a1;refine⟨_,_,_,rfl,by rw[a3,ha.length],by omega,?_⟩;rcases a5 with a5|⟨b',cs,T,hb',hF,hblk,hsz,hrow⟩
  .have h00:=congrArg cad a5.2;dsimp only at h00;exact .inl (zaa (by have:=ha.length;omega))
  .exact .inr ⟨b',(G.C _).2,by simp_all,RA hi hgo' hm rfl ho hb',iha.2 b' _ _ hrow⟩
 |@fview S j v lo n a b l r hm ho hn ha h iha ih=>
  refine both (λu hu=>?_) ih;obtain⟨a1,a2,a3,a4,a5⟩:=hi.ent _ _ hm;simp only[VRel]at hu⊢;obtain⟨p,c,rfl,hnc,hid,hver,hx⟩:=hu;have hlen:=ha.length;rw[List.length_take,List.length_drop]at hlen;refine⟨p,_,c,rfl,by omega,hnc,?_⟩;rcases hx a1 with rfl|⟨b,hb,rfl⟩
  .grind
  .rcases a5 with a5|⟨b',cs,T,hb',hF,hblk,hsz,hrow⟩
   .simp_all
   .rw[hb]at hb';injection hb' with hb';subst hb';refine .inr ⟨_,_,rfl,RA hi hgo' hm rfl ho hb,iha.2 _ _ _ ?_⟩
    grind[Vr,Ur]
 |fref hm ho hx ha h iha ih=>
  refine both (λu hu=>?_) ih;obtain⟨a1,a2,a3,a4,a5⟩:=hi.ent _ _ hm;simp only[VRel]at hu⊢;obtain⟨p,rfl,hid,hver,hp⟩:=hu;obtain⟨b,hb,rfl⟩:=hp a1;rcases a5 with a5|⟨b',cs,T,hb',hF,hblk,hsz,hrow⟩
  .simp_all
  .rw[hb]at hb';injection hb' with hb';subst hb';obtain⟨u,k1,k2,k3⟩:=Md.1 hrow _ _ hx;refine⟨b,_,u,rfl,RA hi hgo' hm rfl ho hb,first iha.1 u k1,?_⟩
   grind
 |pt ha h iha ih=>
  refine both (λu hu=>?_) ih;simp only[VRel]at hu⊢;obtain⟨b,off,x,rfl,hF,hd,hh⟩:=hu;exact⟨b,off,x,rfl,.inl hF,first iha.1 x hd,hh⟩
 |fn ha hc h iha ihc ih=>
  refine both (λu hu=>?_) ih;simp only[VRel]at hu⊢
  grind
 |ifc ha h iha ih=>
  refine both (λu hu=>?_) ih;simp only[VRel]at hu⊢
  grind
theorem Ets.get{ρ:Jo}{m:List Ent}{os:Jo}{es:List Ent}(h:Ets ρ m os es):os.length=es.length/\∀(i:Nat) e,es[i]?=some e->
 (∃j v u S l l',os[i]?=some (some j,v,u)/\m[j]?=some (.live S v l)/\Sbs ρ m l l'/\e=.live S u l')\/(∃S u,os[i]?=some (none,S,u)/\e=.live S u [])\/(∃j l,os[i]?=some (some j,0,0)/\m[j]?=some (.mp l)/\BS l=true/\e=.mp l):=by
 induction h with
 |nil=>simp
 |live hm hl h ih=>
  grind
 |new h ih=>
  grind
 |mp hm hf h ih=>
  grind
theorem Ets.src{ρ:Jo}{m:List Ent}{os:Jo}{es:List Ent}(h:Ets ρ m os es):∀(i j:Nat) v,os[i]?=some (some j,v)->∃e:Ent,m[j]?=some e/\e.isLive=true/\(∀S v' l,e=.live S v' l->v'=v.1):=by
 induction h with
 |nil=>simp
 |live hm hl h ih=>
  intro i j v hi
  cases i with
  |zero=>
   simp only[Paa,Maa,xaa]at hi;obtain⟨rfl,rfl⟩:=hi;exact⟨_,hm,rfl,λS v' l he=>by simp_all⟩
  |succ i=>grind
 |new h ih=>
  grind
 |mp hm hf h ih=>
  intro i j v hi
  cases i with
  |zero=>
   simp only[Paa,Maa,xaa]at hi;obtain⟨rfl,rfl⟩:=hi;exact⟨_,hm,rfl,λS v' l he=>nomatch he⟩
  |succ i=>grind
theorem xd.free{G G':Gh}{w:World}(hG:∀b,G.F b->G'.F b):∀{l:List (Value×D)}{es:List MapEntry},BS l=true->xd G w l es->xd G' w l es
 |[],es,_,h=>h
 |(k,d)::l,es,hf,h=>by
  simp only[BS,Qab,laa]at hf;obtain⟨e,r,h0,h1,h2,h3⟩:=h;exact⟨e,r,h0,h1,VRel.free (G':=G') ⟨λ_ h=>hG _ h,λ_ _=>rfl⟩ hf.1 h2,xd.free hG hf.2 h3⟩
theorem BM{ρ:Jo}(h:(ρ.filterMap (·.1)).Nodup):∀(i i' j:Nat) v v',ρ[i]?=some (some j,v)->ρ[i']?=some (some j,v')->i=i':=by
 induction ρ with
 |nil=>simp
 |cons o os ih=>
  grind
def Zv(ρ:Jo):Nat->Bool
 |0=>true
 |n+1=>Zv ρ n&&(match ρ[n]? with|some (some j,v,u)=>j==n&&u==v|_=>false)
theorem zA{ρ:Jo}:∀{n:Nat},Zv ρ n=true->∀i,i<n->∃v,ρ[i]?=some (some i,v,v)
 |0,_,i,hi=>absurd hi (sad i)
 |n+1,h,i,hi=>by
  simp only[Zv,laa]at h;rcases Oab i n with h1|h1
  .exact zA h.1 i h1
  grind
theorem Fy{N:Nat}{ρ:Jo}{s S:St}(hk:Zv ρ N=true) (h:Tell ρ s S) {G:Gh}{w:World}{a:Act}(hr:Rel G w a s):Rel (Wb G s.m ρ) w a S/\StepN N G w s.m (Wb G s.m ρ) w S.m:=by
 have hi:=hr.inv;have hgo:=h.m.src;have hget:=h.m.get;have hrow:∀{l r:List D},Sbs ρ s.m l r->∀b S off,Sa G w b S l off->Sa (Wb G s.m ρ) w b S r off:=λhs=>(hs.rel hi hgo).2;have hown:∀b,Qc (Wb G s.m ρ) S.m b->Qc G s.m b:=by
  rintro b ⟨i,e,he,hl,hB⟩;rcases hget.2 i e he with⟨j,v,u,S',l,l',h1,h2,h3,rfl⟩|⟨S',u,h1,rfl⟩|⟨j,l,h1,h2,h3,rfl⟩
  .exact⟨j,_,h2,rfl,by grind[Wb]⟩
  .grind[Wb]
  .exact⟨j,_,h2,rfl,by grind[Wb]⟩
 refine⟨⟨(h.t.rel hi hgo).1 _ hr.t,⟨hget.1,?_,?_,?_,hi.gl.bare λ_ h=>.inl h⟩,hr.defers⟩,⟨λ_ hb=>.inl hb,λ_ _=>rfl,?_,?_,rfl,rfl,rfl,oaa _,λ_ _ _=>rfl,?_,λb _ hb=>hown b hb⟩⟩
 .rintro b (hb|hb)
  .exact hi.F b hb
  .exact(Qc.lt hi hb.1).1
 .intro i e he;rcases hget.2 i e he with⟨j,v,u,S',l,l',h1,h2,h3,rfl⟩|⟨S',u,h1,rfl⟩|⟨j,l,h1,h2,h3,rfl⟩
  rotate_left 2
  .obtain⟨a1,b',en,cl,hb',hF,hblk,hrw⟩:=hi.ent _ _ h2;refine⟨by grind[Wb],b',en,cl,by grind[Wb],?_,hblk,xd.free (G':=Wb G s.m ρ) (λ_ h=>Or.inl h) h3 hrw⟩;rintro(hb|⟨_,hb⟩)
   all_goals grind
  .obtain⟨a1,a2,a3,a4,a5⟩:=hi.ent _ _ h2;have hlen:=h3.length;refine⟨by grind[Wb],by grind[Wb],by grind[Wb],by grind[Wb],?_⟩;rcases a5 with a5|⟨b',cs,T,hb',hF,hblk,hsz,hrw⟩
   .grind[Wb]
   .refine .inr ⟨b',cs,T,by grind[Wb],?_,hblk,by grind[Wb],by grind[Wb]⟩;rintro(hb|⟨_,hb⟩)
    all_goals grind
  .exact⟨by grind[Wb],by grind[Wb],by grind[Wb],by simp,.inl (by grind[Wb])⟩
 .intro i i' e e' he he' hl hl' b hb hb';have src:∀(i:Nat) e,S.m[i]?=some e->(Wb G s.m ρ).B i=some b->∃j v e0,ρ[i]?=some (some j,v)/\s.m[j]?=some e0/\e0.isLive=true/\G.B j=some b:=by
   intro i e he hb;rcases hget.2 i e he with⟨j,v,u,S1,l,l',h1,h2,h3,rfl⟩|⟨S1,u,h1,rfl⟩|⟨j,l,h1,h2,h3,rfl⟩
   .exact⟨j,_,_,h1,h2,rfl,by grind[Wb]⟩
   .grind[Wb]
   .exact⟨j,_,_,h1,h2,rfl,by grind[Wb]⟩
  obtain⟨j,v,e0,h1,h2,h3,h4⟩:=src i e he hb;obtain⟨j',v',e0',g1,g2,g3,g4⟩:=src i' e' he' hb';have hj:j=j':=hi.apart j j' _ _ h2 g2 h3 g3 b h4 g4;subst hj;exact BM h.one _ _ _ _ _ h1 g1
 .cases N with
  |zero=>omega
  |succ n=>
   obtain⟨v,hv⟩:=zA hk n (sac n);exact NA hv
 .intro i hiN;obtain⟨v,hv⟩:=zA hk i hiN;obtain⟨e,he,hl,hver⟩:=hgo _ _ _ hv;have hent:=hi.ent _ _ he;have hV:G.V i=v:=by
   rcases hget.2 i _ (caa (by grind))with⟨j,v',u,S',l,l',h1,h2,h3,h4⟩|⟨S',u,h1,h4⟩|⟨j,l,h1,h2,h3,h4⟩
   .rw[hv]at h1;injection h1 with h1;injection h1 with h5 h1;injection h5 with h5;injection h1 with h1 h6;subst h5;subst h1;exact(hi.ent _ _ h2).1
   .simp_all
   .rw[hv]at h1;injection h1 with h1;injection h1 with h5 h1;injection h5 with h5;injection h1 with h1 h6;subst h5;subst h1;exact(hi.ent _ _ h2).1
  grind[Wb]
 .rintro b _ (hb|⟨hb,_⟩)
  all_goals simp_all
theorem T.tell{N:Nat}(ρ:Jo) {c:C}{K:Exit->St->Prop}{s S:St}(hk:Zv ρ N=true) (h:Tell ρ s S) (hT:Tm.T P N c K S):Tm.T P N c K s:=
 T.ghost (λG w a _ hr=>⟨_,(Fy hk h hr).1,(Fy hk h hr).2⟩) hT
variable {P:Program} {N:Nat}
inductive Ex (σ β ρ:Type) where
 |go (s:σ)
 |brk (b:β)
 |ret (v:ρ)
section
variable {σ β ρ:Type}
def Po(step:σ->Option (Ex σ β ρ)):Nat->σ->Option (β⊕ρ)
 |0,_=>none
 |n+1,s=>
  match step s with
  |none=>none
  |some (.go s')=>Po step n s'
  |some (.brk b)=>some (.inl b)
  |some (.ret v)=>some (.inr v)
theorem fy{step:σ->Option (Ex σ β ρ)}:∀{n:Nat}{s:σ}{r},Po step n s=some r->∀k,Po step (n+k) s=some r
 |0,s,r,h,k=>by grind[Po]
 |n+1,s,r,h,k=>by
  rw[show n+1+k=(n+k)+1 by omega];simp only[Po]at h⊢;split
  .simp_all
  .rename_i h';rw[h']at h;exact fy h k
  all_goals simp_all
open Classical in
noncomputable def fa(step:σ->Option (Ex σ β ρ)) (s:σ):Option (β⊕ρ):=
 if h:∃n r,Po step n s=some r then some h.choose_spec.choose else none
theorem wD{step:σ->Option (Ex σ β ρ)}{s:σ}{n:Nat}{r}(h:Po step n s=some r):fa step s=some r:=by
 have hex:∃n r,Po step n s=some r:=⟨n,r,h⟩;unfold fa;rw[dif_pos hex];have h1:=fy hex.choose_spec.choose_spec n
 grind[fy]
theorem BF{step:σ->Option (Ex σ β ρ)}{s:σ}{r}:fa step s=some r↔∃n,Po step n s=some r:=by
 grind[fa,wD]
theorem Yd{step:σ->Option (Ex σ β ρ)}{s s':σ}(h:step s=some (.go s')):fa step s=fa step s':=by
 apply Option.ext;intro r;simp only[BF];constructor
 .rintro⟨n,hn⟩
  cases n with
  |zero=>grind[Po]
  |succ n=>grind[Po]
 .rintro⟨n,hn⟩;exact⟨n+1,by grind[Po]⟩
theorem Nc{step:σ->Option (Ex σ β ρ)}{s:σ}{b:β}(h:step s=some (.brk b)):fa step s=some (.inl b):=wD (n:=1) (by grind[Po])
theorem cr{step:σ->Option (Ex σ β ρ)}{s:σ}{v:ρ}(h:step s=some (.ret v)):fa step s=some (.inr v):=wD (n:=1) (by grind[Po])
end
inductive Tells (N:Nat):St->St->Prop
 |refl (s:St):Tells N s s
 |step {s s' S:St} (ρ:Jo) (hk:Zv ρ N=true) (h:Tell ρ s s') (t:Tells N s' S):Tells N s S
theorem Tells.one{s S:St}(ρ:Jo) (hk:Zv ρ N=true) (h:Tell ρ s S):Tells N s S:=.step ρ hk h (.refl S)
theorem Tells.trans{a b c:St}(h:Tells N a b) (k:Tells N b c):Tells N a c:=by
 induction h with
 |refl=>exact k
 |step ρ hk h t ih=>exact .step ρ hk h (ih k)
theorem T.lE{c:C}{K:Exit->St->Prop}{s S:St}(h:Tells N s S) (hT:Tm.T P N c K S):Tm.T P N c K s:=by
 induction h with
 |refl=>omega
 |step ρ hk h t ih=>grind[T.tell]
def EV(N:Nat) (K:Exit->St->Prop):Prop:=∀s S,Tells N s S->K .normal S->K .normal s
theorem B8{b:C}{K:Exit->St->Prop}:EV N (KS P N b K):=λs S h k=>T.lE h k
theorem v8{id:Nat}{K:Exit->St->Prop}(h:EV N K):EV N (KB id K):=h
def KL{σ β ρ:Type}(N id:Nat) (K:Exit->St->Prop) (S:σ->St) (B:β->St) (z:Ex σ β ρ) (e:Exit) (s':St):Prop:=
 match e with
 |.normal=>match z with|.go x=>Tells N s' (S x)|_=>False
 |.exit j=>if j=id then(match z with|.brk b=>Tells N s' (B b)|_=>False)else K (.exit j) s'
 |e=>K e s'
section
variable {σ β ρ:Type} {id:Nat} {K:Exit->St->Prop} {S:σ->St} {B:β->St} {s':St}
theorem BV{x:σ}:KL N id K S B (.go x:Ex σ β ρ) .normal s'=Tells N s' (S x):=daa rfl rfl
theorem rW{b:β}{j:Nat}:KL N id K S B (.brk b:Ex σ β ρ) (.exit j) s'=if j=id then Tells N s' (B b)else K (.exit j) s':=daa rfl rfl
theorem tW{z:Ex σ β ρ}:KL N id K S B z .ret s'=K .ret s':=daa rfl rfl
theorem sW{v:ρ}{j:Nat}:KL N id K S B (.ret v:Ex σ β ρ) (.exit j) s'=if j=id then False else K (.exit j) s':=daa rfl rfl
theorem A8{z:Ex σ β ρ}:EV N (KL N id K S B z):=by
 intro s S' h k
 cases z with
 |go x=>exact h.trans k
 |_=>exact k.elim
theorem T.fa{x:C}{s:St}(S:σ->St) (B:β->St) (step:σ->Option (Ex σ β ρ)) (x0:σ) {y:β⊕ρ}(hy:Tm.fa step x0=some y) (hs:Tells N s (S x0)) (hst:EV N K)
 (round:∀a z,step a=some z->(∀v,z=.ret v->y=.inr v)->Tm.T P N x (KL N id K S B z) (S a))
 (rest:∀b,y=.inl b->K .normal (B b)):Tm.T P N (.block id (.loop x)) K s:=by
 obtain⟨n,hn⟩:=BF.1 hy;clear hy;refine T.block (T.WV (X:=Nat×σ) (λp s=>Tells N s (S p.2)/\Po step p.1 p.2=some y) (λp=>p.1) (n,x0) ⟨hs,hn⟩ ?_);rintro⟨n,x1⟩ s1 ⟨hs1,hn1⟩;refine T.lE hs1 ?_
 cases n with
 |zero=>grind[Po]
 |succ n=>
  cases hz:step x1 with
  |none=>grind[Po]
  |some z=>
   simp only[Po,hz]at hn1;refine(round x1 z hz (λv hv=>by simp_all)).mono ?_;intro e s' h
   cases e with
   |normal=>
    cases z with
    |go x2=>exact⟨(n,x2),⟨by grind[BV],hn1⟩,sac n⟩
    |_=>exact(h:False).elim
   |exit j=>
    simp only[KL]at h⊢;split
    .rename_i hj;rw[if_pos hj]at h
     cases z with
     |brk b=>exact hst _ _ h (rest b (Faa hn1).symm)
     |_=>simp_all
    simp_all
   |ret=>exact h
   |_=>exact h
end
def KJ{X R:Type}(N:Nat) (K:Exit->St->Prop) (S:X->St) (z:X⊕R) (e:Exit) (s':St):Prop:=
 match e with
 |.normal=>match z with|.inl x=>Tells N s' (S x)|.inr _=>False
 |e=>K e s'
section
variable {X R:Type} {K:Exit->St->Prop} {S:X->St} {s':St}
theorem ZE{x:X}:KJ N K S (.inl x:X⊕R) .normal s'=Tells N s' (S x):=daa rfl rfl
theorem GR{z:X⊕R}{j:Nat}:KJ N K S z (.exit j) s'=K (.exit j) s':=daa rfl rfl
theorem qW{z:X⊕R}:KJ N K S z .ret s'=K .ret s':=daa rfl rfl
theorem z8{z:X⊕R}:EV N (KJ N K S z):=by
 intro s S' h k
 cases z with
 |inl x=>exact h.trans k
 |inr _=>exact k.elim
theorem T.join{a b:C}{s:St}(S:X->St) (z:X⊕R) (ha:Tm.T P N a (KJ N K S z) s) (hb:∀x,z=.inl x->Tm.T P N b K (S x)):Tm.T P N (.seq a b) K s:=by
 refine T.seq (ha.mono ?_);intro e s' h
 cases e with
 |normal=>
  cases z with
  |inl x=>exact T.lE (by grind[ZE]) (hb x rfl)
  |inr _=>exact(h:False).elim
 |_=>exact h
end
variable {P:Program}
def Den(P:Program) (k:Nat) (ds:List D) (o:D):Prop:=∀m,CallT P k ds m λd m'=>d=o/\m'=m
theorem cE{m:List Ent}{l r:List D}(h:Sbs [] m l r):ia r=true:=by
 induction h<;>simp_all[ia,na]
theorem Sbs.v{ρ:Jo}{m:List Ent}{x:Value}{l r:List D}(h:Sbs ρ m l r):Sbs ρ m (.v x::l) (.v x::r):=.same rfl h
theorem Sbs.free{ρ:Jo}{m:List Ent}:∀{l:List D},ia l=true->Sbs ρ m l l
 |[],_=>.nil
 |d::l,h=>by simp only[ia,laa]at h;exact .same h.1 (Sbs.free h.2)
theorem Sbs.app{ρ:Jo}{m:List Ent}{a b c d:List D}(h1:Sbs ρ m a b) (h2:Sbs ρ m c d):Sbs ρ m (a++c) (b++d):=by
 induction h1 with
 |nil=>exact h2
 |same hf h ih=>exact .same hf ih
 |dead h ih=>exact .dead ih
 |nils h ih=>exact .nils ih
 |adopt i hi h ih=>exact .adopt i hi ih
 |agg ha h _ ih=>exact .agg ha ih
 |tup ha h _ ih=>exact .tup ha ih
 |sl ha h _ ih=>exact .sl ha ih
 |own hi h ih=>exact .own hi ih
 |ref hi h ih=>exact .ref hi ih
 |view hi h ih=>exact .view hi ih
 |mp hi h ih=>exact .mp hi ih
 |Cd hm ho ha h _ ih=>exact .Cd hm ho ha ih
 |fview hm ho hn ha h _ ih=>exact .fview hm ho hn ha ih
 |fref hm ho hx ha h _ ih=>exact .fref hm ho hx ha ih
 |pt ha h _ ih=>exact .pt ha ih
 |fn ha hc h _ _ ih=>exact .fn ha hc ih
 |ifc ha h _ ih=>exact .ifc ha ih
class Fr {α:Type} (e:α->D):Prop where
 h:∀x,na (e x)=true
theorem sz{α:Type}{e:α->D}(h:∀x,na (e x)=true):∀l:List α,ia (l.map e)=true
 |[]=>rfl
 |x::l=>by simp[ia,h x,sz h l]
theorem Fr.l{α:Type}{e:α->D} [Fr e] (l:List α):ia (l.map e)=true:=sz Fr.h l
theorem Fr.s{α:Type}{e:α->D} [Fr e] (S:Nat) (l:List α):na (.sl S (l.map e))=true:=Fr.l (e:=e) l
theorem xp{N:Nat}{s S:St}(h:Tells N s S):∀{G:Gh}{w:World}{a:Act},N<=G.n->Rel G w a s->∃G',Rel G' w a S/\StepN N G w s.m G' w S.m:=by
 induction h with
 |refl s=>grind[StepN.refl]
 |step ρ hk h t ih=>
  intro G w a hN hr;obtain⟨h1,h2⟩:=Fy hk h hr;obtain⟨G',h3,h4⟩:=ih h2.n h1;exact⟨G',h3,h2.trans h4⟩
def uE(rs:List RV) (o:D) (e:Exit) (s:St):Prop:=
 match e with
 |.normal=>∃S,Tells 0 s S/\∃ds,sd S rs=some ds/\Sbs [] S.m [ym ds] [o]
 |.ret=>∃S,Tells 0 s S/\∃ds,sd S rs=some ds/\Sbs [] S.m [ym ds] [o]
 |_=>False
def JH(r:Option (List D)) (m:List Ent) (o:D):Prop:=∃ds,r=some ds/\Sbs [] m [ym ds] [o]
def Fin(m:List Ent) (d o:D):Prop:=Sbs [] m [d] [o]
theorem Yl{ds:List D}{m:List Ent}{o:D}:JH (some ds) m o=Fin m (ym ds) o:=by simp[JH,Fin]
@[congr] theorem tX{r r':Option (List D)} {m:List Ent} {o:D} (h:r=r'):JH r m o=JH r' m o:=by rw[h]
theorem vn{rs:List RV}{o:D}{s:St}(h:JH (sd s rs) s.m o):uE rs o .ret s:=by
 obtain⟨ds,h1,h2⟩:=h;exact⟨s,.refl s,ds,h1,h2⟩
theorem w8{rs:List RV}{o:D}:EV 0 (uE rs o):=by
 rintro s S h ⟨S',h1,h2⟩;exact⟨S',h.trans h1,h2⟩
theorem rH{f:FuncId}{ds:List D}{o:D}(hf:ia ds=true) (h:CallT P f ds [] λd m'=>Sbs [] m' [d] [o]):Den P f ds o:=by
 refine λm=>⟨h.1,λG w vs hv hi=>?_⟩;have h0:=h.2 (Gh.bare G.F) w vs (VsRel.free (G:=G) (G':=Gh.bare G.F) ⟨λ_ h=>h,λ_ _=>rfl⟩ hf hv) (vz hi.F (hi.gl.bare λ_ h=>h));refine h0.mono ?_;rintro e w' ⟨v,d,m',G',rfl,hR,hvd,hi',hs⟩;obtain⟨-,-,h3⟩:=iF hi hs hi' (λ_ h=>h);obtain⟨g1,g2⟩:=h3 λ_ h=>h;refine⟨v,o,m,_,rfl,⟨rfl,rfl⟩,?_,g1,g2⟩;have hT:=(hR.rel hi' (λi j v h=>by grind)).1 [v] (by simp only[VsRel];simp_all);simp only[VsRel]at hT;obtain⟨u,us,he,h1,_⟩:=hT;injection he with he _;subst he;have hfree:=cE hR;simp only[ia,paa]at hfree;refine VRel.free (G:=Wb G' m' []) (G':={ G with F:=λb=>G'.F b\/Qc G' m' b }) ⟨?_,λ_ _=>rfl⟩ hfree h1;rintro b (hb|⟨hb,_⟩)
 all_goals simp_all
theorem Den.of{k:Nat}{F:Fun}{ds:List D}{o:D}(hF:Pt P k=some F) (hname:((P.funcs[k]?).map λfn=>fn.name == "runtime.NumGoroutine")=some false) (hf:ia ds=true)
 (h:T P 0 F.code (uE F.results o) ⟨ds++gaa (F.ntmps-ds.length) .dead,[]⟩):Den P k ds o:=by
 refine rH hf (Sy hF hname ?_);refine T.J0 (h.mono ?_);have key:∀(e:Exit) (s:St),(∀s',Nx F.results (λd m'=>Sbs [] m' [d] [o]) e s' = ∃ds,sd s' F.results=some ds/\Sbs [] s'.m [ym ds] [o])->(∃S,Tells 0 s S/\∃ds,sd S F.results=some ds/\Sbs [] S.m [ym ds] [o])->oL 0 (Nx F.results λd m'=>Sbs [] m' [d] [o]) e s:=by
  intro e s he ⟨S,h1,h2⟩ G w a hN hr;obtain⟨G',h3,h4⟩:=xp h1 hN hr
  grind
 intro e s hs
 cases e with
 |normal=>exact key _ s (λ_=>rfl) hs
 |ret=>exact key _ s (λ_=>rfl) hs
 |_=>exact(hs:False).elim
theorem Qx{k:Nat}{ds ds':List D}{o:D}{m:List Ent}{f:D->List Ent->Prop}(h:Den P k ds' o) (hs:Sbs [] m ds ds') (hfl:flat o=true) (hf:f o m):lg P k ds m f:=by
 refine Rk (m1:=m) (d1:=o) ⟨(h []).1,λG w vs hv hi=>?_⟩ hf;have hv1:=(hs.rel hi (λi j v h=>by grind)).1 vs hv;have hv':VsRel (Gh.bare (Wb G m []).F) w ds' vs:=VsRel.free (G:=Wb G m []) ⟨λ_ h=>h,λ_ _=>rfl⟩ (cE hs) hv1;have h0:=(h []).2 _ w vs hv' (vz (λb hb=>by
  rcases hb with hb|⟨hb,_⟩
  .exact hi.F b hb
  .exact(Qc.lt hi hb).1) (hi.gl.bare λ_ h=>.inl h))
 refine h0.mono ?_;rintro e w' ⟨v,d,m',G',rfl,⟨rfl,-⟩,hvd,hi',hs'⟩;obtain⟨-,h2,-⟩:=iF hi hs' hi' (λ_ h=>.inl h);exact⟨v,d,m,G,rfl,⟨rfl,rfl⟩,hvd.flat hfl,h2.1,h2.2⟩
def idx{α:Type}(l:List α) (i:Int):Option α:=if 0<=i then l[i.toNat]? else none
def app{α:Type}(b:Nat) (l r:List α):Option (List α):=if(l.length+r.length)*b<=2 ^ 47 then some (l++r)else none
def put{α:Type}(l:List α) (i:Int) (x:α):Option (List α):=if 0<=i/\i.toNat<l.length then some (l.set i.toNat x)else none
def sE{α:Type}(b:Nat) (x:α) (n c:Int):Option (List α):=if 0<=n/\n<=c/\c<=2 ^ 62/\c.toNat*b<=2 ^ 48 then some (gaa n.toNat x)else none
def quo(k:IntKind) (a b:Int):Option Int:=if b=0 then none else some (ea k (a.tdiv b))
def rem(k:IntKind) (a b:Int):Option Int:=if b=0 then none else some (a.tmod b)
theorem oD{α:Type}{l:List α}{i:Int}{x:α}(h:idx l i=some x):0<=i/\l[i.toNat]?=some x:=by
 grind[idx]
theorem FN{α:Type}{b:Nat}{l r x:List α}(h:app b l r=some x):(l.length+r.length)*b<=140737488355328/\x=l++r:=by
 grind[app]
theorem VP{α:Type}{l x:List α}{i:Int}{y:α}(h:put l i y=some x):0<=i/\i.toNat<l.length/\x=l.set i.toNat y:=by
 grind[put]
theorem zP{α:Type}{b:Nat}{x:α}{n c:Int}{l:List α}(h:sE b x n c=some l):0<=n/\n<=c/\c<=4611686018427387904/\c.toNat*b<=281474976710656/\l=gaa n.toNat x:=by
 grind[sE]
theorem zm{α β:Type}{o:Option α}{f:α->Option β}{r:β}(h:o.bind f=some r):∃x,o=some x/\f x=some r:=pab.1 h
variable {P:Program} {N:Nat}
def WA(f:D->D->Prop):List D->List D->Prop
 |[],[]=>True
 |d::l,e::r=>f d e/\WA f l r
 |_,_=>False
def Zu(f:D->D->Prop) (a b:List D):Prop:=(a=b/\ia a=true)\/WA f a b
def Sq(ρ:Jo) (m:List Ent):Nat->D->D->Prop
 |0,_,_=>False
 |n+1,d,e=>
  match e with
  |.dead=>True
  |.v y=>match d with|.v x=>x=y|_=>False
  |.agg b=>match d with|.agg a=>Zu (Sq ρ m n) a b|_=>False
  |.tup b=>match d with|.tup a=>Zu (Sq ρ m n) a b|_=>False
  |.sl S b=>
   match d with
   |.v x=>x=.slice none 0 0/\b=[]
   |.sl S' a=>S'=S/\Zu (Sq ρ m n) a b
   |.own j v=>
    match m[j]? with
    |some (.live S' v' a)=>S'=S/\v'=v/\jy ρ j=true/\Zu (Sq ρ m n) a b
    |_=>False
   |.view j v lo k=>
    match m[j]? with
    |some (.live S' v' a)=>S'=S/\v'=v/\jy ρ j=true/\lo+k<=a.length/\Zu (Sq ρ m n) ((a.drop lo).take k) b
    |_=>False
   |_=>False
  |.own i u=>
   match d with
   |.own j v=>ρ[i]?=some (some j,v,u)
   |.v x=>x=.slice none 0 0/\∃S,ρ[i]?=some (none,S,u)
   |_=>False
  |.ref i u x s=>match d with|.ref j v x' s'=>ρ[i]?=some (some j,v,u)/\x'=x/\s'=s|_=>False
  |.view i u lo k=>match d with|.view j v lo' k'=>ρ[i]?=some (some j,v,u)/\lo'=lo/\k'=k|_=>False
  |.pt e'=>
   match d with
   |.pt d'=>(d'=e'/\na d'=true)\/Sq ρ m n d' e'
   |.ref j v x s=>
    match m[j]? with
    |some (.live _ v' a)=>v'=v/\s=0/\jy ρ j=true/\(match a[x]? with|some d'=>(d'=e'/\na d'=true)\/Sq ρ m n d' e'|none=>False)
    |_=>False
   |_=>False
  |.fn f b d'=>match d with|.fn f' a c=>f'=f/\Zu (Sq ρ m n) a b/\Zu (Sq ρ m n) c d'|_=>False
  |.mp i=>match d with|.mp j=>ρ[i]?=some (some j,0,0)|_=>False
  |.ifc t e'=>match d with|.ifc t' d'=>t'=t/\((d'=e'/\na d'=true)\/Sq ρ m n d' e')|_=>False
theorem Pw{ρ:Jo}{m:List Ent}{f:D->D->Prop}(hf:∀d e l r,f d e->Sbs ρ m l r->Sbs ρ m (d::l) (e::r)):∀{a b:List D},WA f a b->Sbs ρ m a b
 |[],[],_=>.nil
 |d::l,e::r,h=>hf d e l r h.1 (Pw hf h.2)
 |[],_::_,h=>h.elim
 |_::_,[],h=>h.elim
theorem Zs{ρ:Jo}{m:List Ent}{f:D->D->Prop}(hf:∀d e l r,f d e->Sbs ρ m l r->Sbs ρ m (d::l) (e::r)) {a b:List D}(h:Zu f a b):Sbs ρ m a b:=by
 rcases h with⟨rfl,h⟩|h
 all_goals grind[Sbs.free,Pw]
theorem Uu{ρ:Jo}{m:List Ent}:∀(n:Nat) (d e:D) (l r:List D),Sq ρ m n d e->Sbs ρ m l r->Sbs ρ m (d::l) (e::r)
 |0,d,e,l,r,h,_=>h.elim
 |n+1,d,e,l,r,h,hs=>by
  have ih:=Uu (ρ:=ρ) (m:=m) n;have one:∀d' e',((d'=e'/\na d'=true)\/Sq ρ m n d' e')->Sbs ρ m [d'] [e']:=by
   rintro d' e' (⟨rfl,h⟩|h)
   .exact .same h .nil
   .exact ih _ _ _ _ h .nil
  cases e with
  |dead=>exact .dead hs
  |v y=>cases d<;>simp only[Sq]at h;subst h;exact .v hs
  |agg b=>cases d<;>simp only[Sq]at h;exact .agg (Zs ih h) hs
  |tup b=>cases d<;>simp only[Sq]at h;exact .tup (Zs ih h) hs
  |sl S b=>
   cases d with
   |v x=>simp only[Sq]at h;obtain⟨rfl,rfl⟩:=h;exact .nils hs
   |sl S' a=>simp only[Sq]at h;obtain⟨rfl,h⟩:=h;exact .sl (Zs ih h) hs
   |own j v=>
    simp only[Sq]at h;split at h
    .rename_i S' v' a hm;obtain⟨rfl,rfl,ho,h⟩:=h;exact .Cd hm ho (Zs ih h) hs
    simp_all
   |view j v lo k=>
    simp only[Sq]at h;split at h
    .rename_i S' v' a hm;obtain⟨rfl,rfl,ho,hl,h⟩:=h;exact .fview hm ho hl (Zs ih h) hs
    simp_all
   |_=>simp only[Sq]at h
  |own i u=>
   cases d with
   |own j v=>simp only[Sq]at h;exact .own h hs
   |v x=>simp only[Sq]at h;obtain⟨rfl,S,h⟩:=h;exact .adopt i h hs
   |_=>simp only[Sq]at h
  |ref i u x s=>cases d<;>simp only[Sq]at h;obtain⟨h,rfl,rfl⟩:=h;exact .ref h hs
  |view i u lo k=>cases d<;>simp only[Sq]at h;obtain⟨h,rfl,rfl⟩:=h;exact .view h hs
  |pt e'=>
   cases d with
   |pt d'=>simp only[Sq]at h;exact .pt (one _ _ h) hs
   |ref j v x s=>
    simp only[Sq]at h;split at h
    .rename_i S' v' a hm;obtain⟨rfl,rfl,ho,h⟩:=h;split at h
     .rename_i d' hd;exact .fref hm ho hd (one _ _ h) hs
     simp_all
    simp_all
   |_=>simp only[Sq]at h
  |fn f b d'=>cases d<;>simp only[Sq]at h;obtain⟨rfl,h1,h2⟩:=h;exact .fn (Zs ih h1) (Zs ih h2) hs
  |mp i=>cases d<;>simp only[Sq]at h;exact .mp h hs
  |ifc t e'=>cases d<;>simp only[Sq]at h;obtain⟨rfl,h⟩:=h;exact .ifc (one _ _ h) hs
def VA(ρ:Jo) (m:List Ent):Jo->List Ent->Prop
 |[],[]=>True
 |(some j,v,u)::os,.live S u' b::es=>u=u'/\(match m[j]? with|some (.live S' v' a)=>S'=S/\v'=v/\Zu (Sq ρ m 9) a b|_=>False)/\VA ρ m os es
 |(none,S,u)::os,.live S' u' b::es=>S=S'/\u=u'/\b=[]/\VA ρ m os es
 |(some j,v,u)::os,.mp b::es=>v=0/\u=0/\(match m[j]? with|some (.mp a)=>a=b/\BS b=true|_=>False)/\VA ρ m os es
 |_,_=>False
theorem jC{ρ:Jo}{m:List Ent}:∀{os:Jo}{es:List Ent},VA ρ m os es->Ets ρ m os es
 |[],[],_=>.nil
 |(some j,v,u)::os,.live S u' b::es,h=>by
  simp only[VA]at h;obtain⟨rfl,h1,h2⟩:=h;split at h1
  .rename_i S' v' a hm;obtain⟨rfl,rfl,h1⟩:=h1;exact .live hm (Zs (Uu 9) h1) (jC h2)
  simp_all
 |(none,S,u)::os,.live S' u' b::es,h=>by
  simp only[VA]at h;obtain⟨rfl,rfl,rfl,h2⟩:=h;exact .new (jC h2)
 |[],_::_,h=>by simp[VA]at h
 |_::_,[],h=>by simp[VA]at h
 |(some j,v,u)::os,.mp b::es,h=>by
  simp only[VA]at h;obtain⟨rfl,rfl,h1,h2⟩:=h;split at h1
  .rename_i a hm;obtain⟨rfl,h1⟩:=h1;exact .mp hm h1 (jC h2)
  simp_all
 |(some j,v,u)::os,.gone::es,h=>by simp[VA]at h
 |(none,S,u)::os,.mp _::es,h=>by simp[VA]at h
 |(none,S,u)::os,.gone::es,h=>by simp[VA]at h
theorem Tells.q(ρ:Jo) {s S:St}(hk:Zv ρ N=true) (h3:(ρ.filterMap (·.1)).Nodup) (h:WA (Sq ρ s.m 9) s.t S.t/\VA ρ s.m ρ S.m):Tells N s S:=
 .one ρ hk ⟨Pw (Uu 9) h.1,jC h.2,h3⟩
section
variable {ρ:Jo} {m:List Ent} {n:Nat} {d e:D} {a b c l r:List D} {x y:Value} {S S' i j u v k lo q s:Nat}
theorem RU{f:D->D->Prop}:WA f [] []=True:=daa rfl rfl
theorem WQ{f:D->D->Prop}:WA f (d::l) (e::r)=(f d e/\WA f l r):=daa rfl rfl
theorem bg{f:D->D->Prop}(h:ia a=true):Zu f a a=True:=by simp[Zu,h]
theorem n8{f:D->D->Prop}:Zu f (d::l) (e::r)=(((d::l=e::r)/\ia (d::l)=true)\/(f d e/\WA f l r)):=daa rfl rfl
theorem TU{f:D->D->Prop}:Zu f [] []=True:=by simp[Zu,ia]
theorem UU:Sq ρ m (n+1) d .dead=True:=daa rfl rfl
theorem sq_v:Sq ρ m (n+1) (.v x) (.v y)=(x=y):=daa rfl rfl
theorem xZ:Sq ρ m (n+1) (.agg a) (.agg b)=Zu (Sq ρ m n) a b:=daa rfl rfl
theorem AZ:Sq ρ m (n+1) (.tup a) (.tup b)=Zu (Sq ρ m n) a b:=daa rfl rfl
theorem YU:Sq ρ m (n+1) (.v x) (.sl S b)=(x=.slice none 0 0/\b=[]):=daa rfl rfl
theorem r8:Sq ρ m (n+1) (.sl S' a) (.sl S b)=(S'=S/\Zu (Sq ρ m n) a b):=daa rfl rfl
theorem XU:Sq ρ m (n+1) (.own j v) (.sl S b)=(match m[j]? with|some (.live S' v' a)=>S'=S/\v'=v/\jy ρ j=true/\Zu (Sq ρ m n) a b|_=>False):=daa rfl rfl
theorem YQ:Sq ρ m (n+1) (.view j v lo k) (.sl S b)=(match m[j]? with|some (.live S' v' a)=>S'=S/\v'=v/\jy ρ j=true/\lo+k<=a.length/\Zu (Sq ρ m n) ((a.drop lo).take k) b|_=>False):=daa rfl rfl
theorem yZ:Sq ρ m (n+1) (.own j v) (.own i u)=(ρ[i]?=some (some j,v,u)):=daa rfl rfl
theorem XQ:Sq ρ m (n+1) (.v x) (.own i u)=(x=.slice none 0 0/\∃S,ρ[i]?=some (none,S,u)):=daa rfl rfl
theorem zZ:Sq ρ m (n+1) (.ref j v q s) (.ref i u k lo)=(ρ[i]?=some (some j,v,u)/\q=k/\s=lo):=daa rfl rfl
theorem ZU{lo' k':Nat}:Sq ρ m (n+1) (.view j v lo' k') (.view i u lo k)=(ρ[i]?=some (some j,v,u)/\lo'=lo/\k'=k):=daa rfl rfl
theorem q8:Sq ρ m (n+1) (.pt d) (.pt e)=((d=e/\na d=true)\/Sq ρ m n d e):=daa rfl rfl
theorem WU:Sq ρ m (n+1) (.ref j v q s) (.pt e)=(match m[j]? with
 |some (.live _ v' a)=>v'=v/\s=0/\jy ρ j=true/\(match a[q]? with|some d'=>(d'=e/\na d'=true)\/Sq ρ m n d' e|none=>False)
 |_=>False):=daa rfl rfl
theorem o8{f f':FuncId}{d':List D}:Sq ρ m (n+1) (.fn f' a c) (.fn f b d')=(f'=f/\Zu (Sq ρ m n) a b/\Zu (Sq ρ m n) c d'):=daa rfl rfl
theorem xX:VA ρ m [] []=True:=daa rfl rfl
theorem wS{os:Jo}{es:List Ent}{u':Nat}:VA ρ m ((some j,v,u)::os) (.live S u' b::es)=(u=u'/\(match m[j]? with|some (.live S' v' a)=>S'=S/\v'=v/\Zu (Sq ρ m 9) a b|_=>False)/\VA ρ m os es):=by simp only[VA]
theorem wX{os:Jo}{es:List Ent}{u':Nat}:VA ρ m ((none,S,u)::os) (.live S' u' b::es)=(S=S'/\u=u'/\b=[]/\VA ρ m os es):=by simp only[VA]
theorem p8:Sq ρ m (n+1) (.mp j) (.mp i)=(ρ[i]?=some (some j,0,0)):=daa rfl rfl
theorem B1{os:Jo}{es:List Ent}{b:List (Value×D)}:VA ρ m ((some j,v,u)::os) (.mp b::es)=(v=0/\u=0/\(match m[j]? with|some (.mp a)=>a=b/\BS b=true|_=>False)/\VA ρ m os es):=by simp only[VA]
theorem CS:BS []=true:=daa rfl rfl
theorem OP:jy [] j=true:=daa rfl rfl
theorem HM{o:Option Nat×Nat×Nat}:jy (o::ρ) j=((match o.1 with|some k=>k !=j|none=>true)&&jy ρ j):=daa rfl rfl
end
theorem wF{m:List Ent}{d o:D}(h:Sq [] m 9 d o):Fin m d o:=Uu 9 d o [] [] h .nil
theorem bE{G:Gh}{w:World}{l r:List D}(h:Sbs [] [] l r):(∀us,VsRel G w l us->VsRel G w r us)/\(∀b S off,Sa G w b S l off->Sa G w b S r off):=by
 have both:∀{d e:D} {l r:List D},(∀u,VRel G w d u->VRel G w e u)->
  ((∀us,VsRel G w l us->VsRel G w r us)/\(∀b S off,Sa G w b S l off->Sa G w b S r off))->
  ((∀us,VsRel G w (d::l) us->VsRel G w (e::r) us)/\(∀b S off,Sa G w b S (d::l) off->Sa G w b S (e::r) off)):=by
  intro d e l r h1 h2;refine⟨λus hv=>?_,λb S off hv=>?_⟩
  .simp only[VsRel]at hv⊢
   grind
  .simp only[Sa]at hv⊢
   grind
 have first:∀{d e:D},(∀us,VsRel G w [d] us->VsRel G w [e] us)->∀u,VRel G w d u->VRel G w e u:=by
  intro d e h u hu;have:=h [u] (by simp only[VsRel];simp_all);simp only[VsRel]at this
  simp_all
 induction h with
 |nil=>simp
 |same hf h ih=>exact both (λu hu=>hu) ih
 |dead h ih=>exact both (λu _=>by simp[VRel]) ih
 |nils h ih=>exact both (λu hu=>by simp only[VRel]at hu⊢;grind) ih
 |agg ha h iha ih=>
  refine both (λu hu=>?_) ih;simp only[VRel]at hu⊢
  grind
 |tup ha h iha ih=>
  refine both (λu hu=>?_) ih;simp only[VRel]at hu⊢
  grind
 |sl ha h iha ih=>
  refine both (λu hu=>?_) ih;simp only[VRel]at hu⊢;obtain⟨a,n,cap,rfl,hn,hc,g⟩:=hu;refine⟨a,n,cap,rfl,by rw[←ha.length];omega,hc,?_⟩;rcases g with rfl|⟨b,off,rfl,hF,hr⟩
  .exact .inl (zaa ha.length.symm)
  grind
 |pt ha h iha ih=>
  refine both (λu hu=>?_) ih;simp only[VRel]at hu⊢
  grind
 |fn ha hc h iha ihc ih=>
  refine both (λu hu=>?_) ih;simp only[VRel]at hu⊢
  grind
 |ifc ha h iha ih=>
  refine both (λu hu=>?_) ih;simp only[VRel]at hu⊢
  grind
 |adopt i hi=>simp at hi
 |own hi=>simp at hi
 |ref hi=>simp at hi
 |view hi=>simp at hi
 |mp hi=>simp at hi
 |Cd hm=>simp at hm
 |fview hm=>simp at hm
 |fref hm=>simp at hm
theorem cG{k:Nat}{ds ds':List D}{o:D}{m:List Ent}{f:D->List Ent->Prop}(h:Den P k ds' o) (hf:f o m) (hs:WA (Sq [] [] 9) ds ds'):lg P k ds m f:=
 Rk (m1:=m) (d1:=o) ⟨(h m).1,λG w vs hv hi=>(h m).2 G w vs ((bE (Pw (Uu 9) hs)).1 vs hv) hi⟩ hf
theorem BC{k:Nat}{ds ds':List D}{o:D}{m:List Ent}{f:D->List Ent->Prop}(h:Den P k ds' o) (hf:f o m) (hfl:flat o=true) (hs:WA (Sq [] m 9) ds ds'):lg P k ds m f:=
 Qx h (Pw (Uu 9) hs) hfl hf
section
variable {K:Exit->St->Prop} {s:St} {l:List RI} {a b:C} {c:Operand} {t:Bool} {id q:Nat}
theorem T.rg(h:wh P l (K .normal) s):Tm.T P N (.oN l) K s:=T.oN (Su h)
theorem T.cd(ht:s.ev c=.v (.bool t)) (h:gP (t=true) (Tm.T P N a K s) (Tm.T P N b K s)):Tm.T P N (.cond c a b) K s:=
 T.cond ht (λe=>h.1 e) (λe=>h.2 (by grind))
theorem T.bk(h:Tm.T P N a (KB id K) s):Tm.T P N (.block id a) K s:=T.block (h.mono λe s' h'=>by cases e<;>exact h')
theorem T.sr(h:wh P l (KS P N b K .normal) s):Tm.T P N (.seq (.oN l) b) K s:=T.Dy (T.rg h)
theorem gP.ite{p q Y N:Prop} [Decidable q] {α:Type}{A B:Option α}{r:α}(h:(if q then A else B)=some r) (hpq:p↔q) (h1:q->A=some r->Y) (h2:¬q->B=some r->N):gP p Y N:=by
 by_cases c:q
 .rw[if_pos c]at h;exact⟨λ_=>h1 c h,λhp=>(hp (hpq.2 c)).elim⟩
 .rw[if_neg c]at h;exact⟨λhp=>(c (hpq.1 hp)).elim,λ_=>h2 c h⟩
end
def ds:Nat->List D->List D
 |0,l=>l
 |n+1,l=>.dead::ds n l
theorem Fw{l:List D}:ds 0 l=l:=daa rfl rfl
theorem Cu{n:Nat}{l:List D}:ds (n+1) l=.dead::ds n l:=daa rfl rfl
variable {P:Program} {N:Nat}
def VV(ok:Bool) (z:D) (m:List Ent) (o:Option D):Option (D×List Ent):=
 match o with
 |some d=>some (if ok then .tup [d,.v (.bool true)]else d,m)
 |none=>some (if ok then .tup [z,.v (.bool false)]else z,m)
def mlk{β:Type}:List (Int×β)->Int->Option β
 |[],_=>none
 |(q,x)::l,k=>if k=q then some x else mlk l k
def em{β:Type}(e:β->D) (l:List (Int×β)):List (Value×D):=l.map λp=>(.int .i64 p.1,e p.2)
theorem KK{β:Type}{e:β->D}{k:Int}:∀{l:List (Int×β)},Dx (.int .i64 k) (em e l)=(mlk l k).map e
 |[]=>daa rfl rfl
 |(q,x)::l=>by
  have ih:=KK (e:=e) (k:=k) (l:=l);simp only[em]at ih;simp only[em,Gaa,Dx,aw,mlk,beq_iff_eq,ih];split<;>rfl
theorem DW{β:Type}{e:β->D}{l:List (Int×β)}:((em e l).all λq=>isKey 0 q.1)=true:=by
 simp[em,isKey]
theorem sX{β:Type}{e:β->D}:em e []=[]:=daa rfl rfl
theorem rX{β:Type}{e:β->D}{l:List (Int×β)}:(em e l).length=l.length:=by simp[em]
theorem BX{β:Type}{e:β->D} [Fr e] {l:List (Int×β)}:BS (em e l)=true:=by
 simp only[BS,em,List.all_map,Oaa];exact λx _=>Fr.h x.2
theorem bT{k:Int}:isKey 0 (.int .i64 k)=true:=daa rfl rfl
def Zr(b:ByteArray) (i:Int):Option Int:=if h:0<=i/\i.toNat<b.size then some ((b[i.toNat]'h.2).toNat:Int)else none
def Er:Nat->List D->Bool
 |0,[]=>true
 |n+1,_::l=>Er n l
 |_,_=>false
theorem ep:∀{n:Nat}{l:List D},Er n l=true↔l.length=n
 |0,[]=>by simp[Er]
 |n+1,_::l=>by simp[Er,ep (n:=n) (l:=l)]
 |0,_::_=>by simp[Er]
 |_+1,[]=>by simp[Er]
def Wv:Nat->Nat->List D->Bool
 |0,0,_=>true
 |0,n+1,_::l=>Wv 0 n l
 |o+1,n,_::l=>Wv o n l
 |_,_,[]=>false
theorem Sp:∀{o n:Nat}{l:List D},Wv o n l=true↔o+n<=l.length
 |0,0,l=>by simp[Wv]
 |0,n+1,_::l=>by simp[Wv,Sp (o:=0) (n:=n) (l:=l)]
 |o+1,n,_::l=>by simp[Wv,Sp (o:=o) (n:=n) (l:=l)];omega
 |0,n+1,[]=>by simp[Wv]
 |o+1,n,[]=>by simp[Wv]
theorem AY:Er 0 []=true:=daa rfl rfl
theorem jT{n:Nat}{d:D}{l:List D}:Er (n+1) (d::l)=Er n l:=daa rfl rfl
theorem T9{l:List D}:Wv 0 0 l=true:=by cases l<;>rfl
theorem R9{n:Nat}{d:D}{l:List D}:Wv 0 (n+1) (d::l)=Wv 0 n l:=daa rfl rfl
theorem S9{o n:Nat}{d:D}{l:List D}:Wv (o+1) n (d::l)=Wv o n l:=by cases n<;>rfl
theorem q_mv:type_of% @la.eq_1:=by intros;exact daa rfl rfl
theorem dZ:type_of% @la.eq_2:=by intros;exact daa rfl rfl
theorem P7:type_of% @la.eq_3:=by intros;exact daa rfl rfl
theorem O7:type_of% @la.eq_4:=by intros;exact daa rfl rfl
theorem q_un:type_of% @la.eq_5:=by intros;exact daa rfl rfl
theorem WY:type_of% @la.eq_6:=by intros;exact daa rfl rfl
theorem XT:type_of% @la.eq_7:=by intros;exact daa rfl rfl
theorem Q7{s:St}{S:Nat}{x:Operand}:la s (.box S x)=if(s.ev x).ok=true/\Er S (s.ev x).cells=true then some (.ref s.m.length 0 0 0,s.m++[.live S 0 [s.ev x]])else none:=by simp only[ep,Sp];rfl
theorem YT:type_of% @la.eq_9:=by intros;exact daa rfl rfl
theorem YP:type_of% @la.eq_10:=by intros;exact daa rfl rfl
theorem YY{s:St}{A:Bool}{n:Nat}{x:Operand}:la s (.load A n x) =
 match s.ev x with
 |.pt d=>
  match A,d with
  |true,.agg l=>if Er n l=true then some (d,s.m)else none
  |true,_=>none
  |false,.agg _=>none
  |false,d=>if d.ok=true then some (d,s.m)else none
 |.ref id Ja idx sub=>
  match s.m[id]? with
  |some (.live _ ver' l)=>if ver'=Ja then(l[idx]?).bind λd=>if d.ok=true then(part A n sub d.cells).map λr=>(r,s.m)else none else none
  |_=>none
 |_=>none:=by simp only[ep,Sp];rfl
theorem jU{s:St}{n:Nat}{x:Operand}{y:Operand}:la s (.store n x y) =
 match s.ev x with
 |.ref id Ja idx sub=>
  match s.m[id]? with
  |some (.live S ver' l)=>
   if ver'=Ja/\(s.ev y).ok=true/\Er n (s.ev y).cells=true then
    (l[idx]?).bind λd=>if d.ok=true/\0<n/\Wv sub n d.cells=true then some (.dead,s.m.set id (.live S ver' (l.set idx (d.He sub (s.ev y).cells))))else none
   else none
  |_=>none
 |_=>none:=by simp only[ep,Sp];rfl
theorem cZ:type_of% @la.eq_13:=by intros;exact daa rfl rfl
theorem iU:type_of% @la.eq_14:=by intros;exact daa rfl rfl
theorem ZT:type_of% @la.eq_15:=by intros;exact daa rfl rfl
theorem aU:type_of% @la.eq_16:=by intros;exact daa rfl rfl
theorem bU:type_of% @la.eq_17:=by intros;exact daa rfl rfl
theorem WT:type_of% @la.eq_18:=by intros;exact daa rfl rfl
theorem cU:type_of% @la.eq_19:=by intros;exact daa rfl rfl
theorem LM:type_of% @la.eq_20:=by intros;exact daa rfl rfl
theorem T7:type_of% @la.eq_21:=by intros;exact daa rfl rfl
theorem fZ:type_of% @la.eq_22:=by intros;exact daa rfl rfl
theorem XP:type_of% @la.eq_23:=by intros;exact daa rfl rfl
theorem MM:type_of% @la.eq_24:=by intros;exact daa rfl rfl
theorem ZP:type_of% @la.eq_25:=by intros;exact daa rfl rfl
theorem XY:type_of% @la.eq_26:=by intros;exact daa rfl rfl
theorem q_mm:type_of% @la.eq_27:=by intros;exact daa rfl rfl
theorem R7:type_of% @la.eq_28:=by intros;exact daa rfl rfl
theorem gZ:type_of% @la.eq_29:=by intros;exact daa rfl rfl
theorem eZ{s:St}{x i:Operand}:la s (.Zr x i)=(match s.ev x,s.ev i with
 |.v (.string b),.v (.int _ k)=>(Zr b k).map λn=>(D.v (.int .u8 n),s.m)
 |_,_=>none):=by
 simp only[la];generalize s.ev x=a;generalize s.ev i=c;split
 .rename_i b k' k;by_cases h:0<=k/\k.toNat<b.size<;>simp[Zr,h]
 .rename_i hx;split
  .exact(hx _ _ _ rfl rfl).elim
  .rfl
theorem aQ:type_of% @la.eq_31:=by intros;exact daa rfl rfl
theorem fU:type_of% @la.eq_32:=by intros;exact daa rfl rfl
theorem gU{s:St}{K:Nat}{ok:Bool}{z:D}{x:Operand}{k:Operand}:la s (.mlook K ok z x k) =
 match s.ev k with
 |.v kv=>
  if isKey K kv=true then
   match s.ev x with
   |.v (.map none)=>some (if ok then .tup [z,.v (.bool false)]else z,s.m)
   |.mp id=>
    match s.m[id]? with
    |some (.mp es)=>
     if(es.all λe=>isKey K e.1)=true then
      VV ok z s.m (Dx kv es)
     else none
    |_=>none
   |_=>none
  else none
 |_=>none:=by
 simp only[la,VV];rfl
theorem aZ:type_of% @la.eq_34:=by intros;exact daa rfl rfl
theorem ZY:type_of% @la.eq_35:=by intros;exact daa rfl rfl
theorem kU:type_of% @la.eq_36:=by intros;exact daa rfl rfl
theorem eU:type_of% @la.eq_37:=by intros;exact daa rfl rfl
theorem NM:type_of% @la.eq_38:=by intros;exact daa rfl rfl
theorem S7:type_of% @la.eq_39:=by intros;exact daa rfl rfl
theorem VY:type_of% @la.eq_40:=by intros;exact daa rfl rfl
theorem hU:type_of% @la.eq_41:=by intros;exact daa rfl rfl
theorem dU:type_of% @la.eq_42:=by intros;exact daa rfl rfl
def gQ(p:Prop) (R1:St->Prop) (s1:St) (R2:St->Prop) (s2:St):Prop:=gP p (R1 s1) (R2 s2)
theorem O9{R1 R2:St->Prop}{s1 s2:St}:gQ True R1 s1 R2 s2=R1 s1:=J1
theorem N9{R1 R2:St->Prop}{s1 s2:St}:gQ False R1 s1 R2 s2=R2 s2:=F1
def gD(d:D) (b:Bool) (R1:St->Prop) (s1:St) (R2:St->Prop) (s2 s0:St):Prop:=
 match d with
 |.v (.bool c)=>gQ (c=b) R1 s1 R2 s2
 |.v _=>R2 s0
 |_=>False
theorem DS{c b:Bool}{R1 R2:St->Prop}{s1 s2 s0:St}:gD (.v (.bool c)) b R1 s1 R2 s2 s0=gQ (c=b) R1 s1 R2 s2:=daa rfl rfl
theorem ES{b:Bool}{R1 R2:St->Prop}{s1 s2 s0:St}:gD (.v (.tuple #[])) b R1 s1 R2 s2 s0=R2 s0:=daa rfl rfl
theorem NO{b:Bool}{R1 R2:St->Prop}{s1 s2 s0:St}:gD (.v undef) b R1 s1 R2 s2 s0=R2 s0:=daa rfl rfl
section
variable {t:List D} {m:List Ent} {i:Nat} {b:Bool} {dst:Option Tmp} {l:List RI} {K:St->Prop} {ins:I} {k q:Nat} {args:List Operand}
theorem xN:wh P (.op dst (some (i,b)) ins::l) K ⟨t,m⟩=gD (t.getD i .dead) b (wh P (.op dst none ins::l) K) ⟨t.set i (.v (.bool b)),m⟩ (wh P l K) (St.put ⟨t.set i (.v (.bool (!b))),m⟩ dst (.v undef)) (St.put ⟨t,m⟩ dst (.v undef)):=by
 rw[yN];simp only[gate,gD,gQ,FG,oK]
 cases h:t.getD i .dead with
 |v x=>cases x<;>simp[gP]<;>cases b<;>simp
 |_=>rfl
theorem QI:wh P (.call dst (some (i,b)) (.func k) args::l) K ⟨t,m⟩=gD (t.getD i .dead) b (wh P (.call dst none (.func k) args::l) K) ⟨t.set i (.v (.bool b)),m⟩ (wh P l K) (St.put ⟨t.set i (.v (.bool (!b))),m⟩ dst (.v undef)) (St.put ⟨t,m⟩ dst (.v undef)):=by
 rw[gH];simp only[gate,gD,gQ,FG,xC]
 cases h:t.getD i .dead with
 |v x=>cases x<;>simp[gP]<;>cases b<;>simp
 |_=>rfl
theorem OO{t:List D}{i:Nat}{b c:Bool}(h:t.getD i .dead=.v (.bool c)) {Y N:List D->Prop}:gP (c=b) (Y t) (N t)=gP (c=b) (Y (t.set i (.v (.bool b)))) (N (t.set i (.v (.bool (!b))))):=by
 have hs:=Vz h (by simp);by_cases hc:c=b
 .subst hc;rw[hs];simp[gP]
 .have:(!b)=c:=by cases b<;>cases c<;>simp_all
  rw[this,hs];simp[gP,hc]
theorem SI:wh P (.call dst none (.tmp i) args::l) K ⟨t,m⟩=(match t.getD i .dead with|.fn k first caps=>lg P k (first++args.map (St.ev ⟨t,m⟩)++caps) m (KO (wh P l K) ⟨t,m⟩ dst)|_=>False):=by
 simp only[wh,gate,St.ec,St.ev]
 first|done|(cases t.getD i .dead<;>rfl)
theorem CR:vx P (q+1) (.op dst (some (i,b)) ins::l) K ⟨t,m⟩=gD (t.getD i .dead) b (vx P (q+1) (.op dst none ins::l) K) ⟨t.set i (.v (.bool b)),m⟩ (vx P q l K) (St.put ⟨t.set i (.v (.bool (!b))),m⟩ dst (.v undef)) (St.put ⟨t,m⟩ dst (.v undef)):=by
 rw[DR];simp only[gate,gD,gQ,rN]
 cases h:t.getD i .dead with
 |v x=>
  cases x with
  |bool c=>exact OO h (Y:=λt=>jt (la ⟨t,m⟩ ins) (KO (vx P q l K) ⟨t,m⟩ dst)) (N:=λt=>vx P q l K (St.put ⟨t,m⟩ dst (.v undef)))
  |_=>cases b<;>simp[gP]
 |_=>rfl
theorem rL:vx P (q+1) (.call dst (some (i,b)) (.func k) args::l) K ⟨t,m⟩=gD (t.getD i .dead) b (vx P (q+1) (.call dst none (.func k) args::l) K) ⟨t.set i (.v (.bool b)),m⟩ (vx P q l K) (St.put ⟨t.set i (.v (.bool (!b))),m⟩ dst (.v undef)) (St.put ⟨t,m⟩ dst (.v undef)):=by
 rw[OI];simp only[gate,gD,gQ,YE]
 cases h:t.getD i .dead with
 |v x=>
  cases x with
  |bool c=>exact OO h (Y:=λt=>lF P k (args.map (St.ev ⟨t,m⟩)) (vx P q l K) ⟨t,m⟩ dst) (N:=λt=>vx P q l K (St.put ⟨t,m⟩ dst (.v undef)))
  |_=>cases b<;>simp[gP]
 |_=>rfl
end
section
variable {t:List D} {m m':List Ent} {i:Nat} {x:Value} {f:FuncId} {g:Nat} {b c:Bool} {d d':D} {k n:Nat} {R:St->Prop} {o:Operand} {s:St}
theorem BZ:St.ev ⟨t,m⟩ (.tmp i)=t.getD i .dead:=daa rfl rfl
theorem ZQ:St.ev s (.const x)=.v x:=daa rfl rfl
theorem cV:St.ev s (.func f)=.fn f [] []:=daa rfl rfl
theorem JM:St.put ⟨t,m⟩ (some i) d=⟨t.set i d,m⟩:=daa rfl rfl
theorem IM:St.put s none d=s:=daa rfl rfl
theorem JR:KO R ⟨t,m⟩ (some i) d m'=R ⟨t.set i d,m'⟩:=daa rfl rfl
theorem HR:KO R ⟨t,m⟩ none d m'=R ⟨t,m'⟩:=daa rfl rfl
theorem oM:gate ⟨t,m⟩ (some (i,b))=(match t.getD i .dead with|.v (.bool c)=>some (some (c,b))|.v _=>some (some (!b,b))|_=>none):=daa rfl rfl
theorem SP:FG ⟨t,m⟩ (some (i,b)) c=(match t.getD i .dead with|.v (.bool _)=>⟨t.set i (.v (.bool c)),m⟩|_=>⟨t,m⟩):=daa rfl rfl
theorem JL{l:List D}:D.cells (.agg l)=l:=daa rfl rfl
theorem VR:D.cells (.v x)=[.v x]:=daa rfl rfl
theorem WN{l:List D}:D.cells (.sl n l)=[.sl n l]:=daa rfl rfl
theorem ML:D.cells (.own i k)=[.own i k]:=daa rfl rfl
theorem bJ{a b:Nat}:D.cells (.view i k a b)=[.view i k a b]:=daa rfl rfl
theorem NL{a b:Nat}:D.cells (.ref i k a b)=[.ref i k a b]:=daa rfl rfl
theorem VN:D.cells (.pt d)=[.pt d]:=daa rfl rfl
theorem SN{a b:List D}:D.cells (.fn f a b)=[.fn f a b]:=daa rfl rfl
theorem UN:D.cells (.mp i)=[.mp i]:=daa rfl rfl
theorem PY{l:List D}:D.ok (.agg l)=true:=daa rfl rfl
theorem ok_v:D.ok (.v x)=one x:=daa rfl rfl
theorem J7{l:List D}:D.ok (.sl n l)=true:=daa rfl rfl
theorem QY:D.ok (.own i k)=true:=daa rfl rfl
theorem PT{a b:Nat}:D.ok (.view i k a b)=true:=daa rfl rfl
theorem RY{a b:Nat}:D.ok (.ref i k a b)=true:=daa rfl rfl
theorem I7:D.ok (.pt d)=true:=daa rfl rfl
theorem G7{a b:List D}:D.ok (.fn f a b)=true:=daa rfl rfl
theorem H7:D.ok (.mp i)=true:=daa rfl rfl
theorem QT{j:IntKind}{z:Int}:one (.int j z)=true:=daa rfl rfl
theorem MP:one (.bool b)=true:=daa rfl rfl
theorem UT{z:ByteArray}:one (.string z)=true:=daa rfl rfl
theorem SY{a b}:one (.slice none a b)=true:=daa rfl rfl
theorem RT:one (.map none)=true:=daa rfl rfl
theorem TT:one (.pointer none)=true:=daa rfl rfl
theorem fT:Bk m (.v (.slice none 0 0))=some 0:=daa rfl rfl
theorem zY{l:List D}:Bk m (.sl n l)=some l.length:=daa rfl rfl
theorem iT:Bk m (.own i k)=(match m[i]? with|some (.live _ ver' l)=>if ver'=k then some l.length else none|_=>none):=daa rfl rfl
theorem pP{a b:Nat}:Bk m (.view i k a b)=(match m[i]? with|some _=>some b|none=>none):=daa rfl rfl
theorem XR:contents n m (.v (.slice none 0 0))=some []:=daa rfl rfl
theorem aX{l:List D}:contents n m (.sl k l)=(if k=n then some l else none):=daa rfl rfl
theorem YR:contents n m (.own i k)=(match m[i]? with|some (.live S' ver' l)=>if S'=n/\ver'=k then some l else none|_=>none):=daa rfl rfl
theorem dO{a b:Nat}:contents n m (.view i k a b)=(match m[i]? with|some (.live S' ver' l)=>if S'=n/\ver'=k/\a+b<=l.length then some ((l.drop a).take b)else none|_=>none):=daa rfl rfl
theorem UY{l:List D}{off:Nat}:part true n off l=(if Wv off n l=true then some (.agg ((l.drop off).take n))else none):=by simp only[Sp];rfl
theorem TY{l:List D}{off:Nat}:part false n off l=l[off]?:=daa rfl rfl
theorem vV{l r:List D}{a:Nat}:D.He (.agg l) a r=.agg (sn l a r):=daa rfl rfl
theorem E8{r:List D}{a:Nat}:D.He (.v x) a r=r.headD .dead:=daa rfl rfl
theorem NZ{l r:List D}{a:Nat}:D.He (.sl n l) a r=r.headD .dead:=daa rfl rfl
theorem wV{r:List D}{a:Nat}:D.He (.own i k) a r=r.headD .dead:=daa rfl rfl
theorem MZ{r:List D}{a:Nat}:D.He (.pt d) a r=r.headD .dead:=daa rfl rfl
theorem xV{r:List D}{a b c:Nat}:D.He (.ref i k b c) a r=r.headD .dead:=daa rfl rfl
theorem head_cons{r:List D}{e:D}:(d::r).headD e=d:=daa rfl rfl
theorem UQ{l r:List D}:sn (d::l) 0 (d'::r)=d'::sn l 0 r:=by simp[sn]
theorem VQ{l r:List D}:sn (d::l) (n+1) r=d::sn l n r:=by simp[sn,Nat.add_right_comm]
theorem gK{l:List D}:sn l 0 []=l:=by simp[sn]
theorem HL{l:List D}:pq s [] l=some l:=daa rfl rfl
theorem VI{l:List D}{off:Nat}{ps:List (Nat×Nat×Operand)}:pq s ((off,n,o)::ps) l=(if(s.ev o).ok=true/\Er n (s.ev o).cells=true/\Wv off n l=true then pq s ps (sn l off (s.ev o).cells)else none):=by simp only[ep,Sp];rfl
theorem TR{l:List D}:Tl s n [] l=some l:=daa rfl rfl
theorem JN{l:List D}{ps:List (Nat×Operand)}:Tl s n ((i,o)::ps) l=(if(s.ev o).ok=true/\Er n (s.ev o).cells=true/\Wv i 1 l=true then Tl s n ps (l.set i (s.ev o))else none):=by simp only[ep,Sp];rfl
theorem GN:bound s n none=some n:=daa rfl rfl
theorem HN:bound s n (some o)=(match s.ev o with|.v (.int _ n)=>if 0<=n then some n.toNat else none|_=>none):=daa rfl rfl
theorem OU{lo hi:Nat}:yq n m (.v (.slice none 0 0)) lo hi=(if lo=0/\hi=0 then some (.v (.slice none 0 0))else none):=daa rfl rfl
theorem wZ{lo hi:Nat}{l:List D}:yq n m (.sl k l) lo hi=(if k=n/\lo<=hi/\hi<=l.length then some (.sl n ((l.drop lo).take (hi-lo)))else none):=daa rfl rfl
theorem PU{lo hi:Nat}:yq n m (.own i k) lo hi=(match m[i]? with|some (.live S' ver' l)=>if S'=n/\ver'=k/\lo<=hi/\hi<=l.length then some (.view i k lo (hi-lo))else none|_=>none):=daa rfl rfl
theorem TQ{lo hi a b:Nat}:yq n m (.view i k a b) lo hi=(match m[i]? with|some (.live S' ver' l)=>if S'=n/\ver'=k/\lo<=hi/\hi<=b/\a+b<=l.length then some (.view i k (a+lo) (hi-lo))else none|_=>none):=daa rfl rfl
theorem mT:leaves []=some []:=daa rfl rfl
theorem uP{l:List D}:leaves (.v x::l)=(leaves l).map (x::·):=daa rfl rfl
theorem rS{j k:IntKind}{a b:Int}:rq 0 (.v (.int j a)) (.v (.int k b))=(if j=k then some (a==b)else none):=daa rfl rfl
theorem GO{a b:Bool}:rq 1 (.v (.bool a)) (.v (.bool b))=some (a==b):=daa rfl rfl
theorem Px{a b:ByteArray}:(a.toList==b.toList)=decide (a=b):=by
 by_cases h:a=b
 .subst h;simp
 .rw[decide_eq_false h,beq_eq_false_iff_ne];exact λhe=>h (by cases a;cases b;simp only[ByteArray.toList_eq]at he;simpa using he)
theorem uS{a b:ByteArray}:rq 2 (.v (.string a)) (.v (.string b))=some (decide (a=b)):=by
 rw[←Px];rfl
theorem CZ{a b:ByteArray}:Ff (binOp .eql 0 (.string a) (.string b))=some (.bool (decide (a=b))):=by
 rw[←Px];rfl
theorem DZ{a b:ByteArray}:Ff (binOp .neq 0 (.string a) (.string b))=some (.bool (!decide (a=b))):=by
 rw[←Px];rfl
theorem vS:Rc [] [] []=some true:=daa rfl rfl
theorem HO{ks:List Nat}{xs ys:List D}{e:D}:Rc (k::ks) (d::xs) (e::ys)=(match rq k d e,Rc ks xs ys with|some a,some b=>some (a&&b)|_,_=>none):=daa rfl rfl
section
variable {j:IntKind} {a b:Int}
theorem MW:Ln .add j a j b=some (.int j (ea j (a+b))):=by simp[Ln]
theorem WW:Ln .sub j a j b=some (.int j (ea j (a-b))):=by simp[Ln]
theorem SW:Ln .mul j a j b=some (.int j (ea j (a*b))):=by simp[Ln]
theorem NW:Ln .eql j a j b=some (.bool (a==b)):=by simp[Ln]
theorem TW:Ln .neq j a j b=some (.bool (a !=b)):=by simp[Ln]
theorem RW:Ln .lss j a j b=some (.bool (decide (a<b))):=by simp[Ln]
theorem QW:Ln .leq j a j b=some (.bool (decide (a<=b))):=by simp[Ln]
theorem PW:Ln .gtr j a j b=some (.bool (decide (b<a))):=by simp[Ln]
theorem OW:Ln .geq j a j b=some (.bool (decide (b<=a))):=by simp[Ln]
theorem UW:Ln .quo j a j b=if b=0 then none else some (.int j (ea j (a.tdiv b))):=by
 by_cases h:b=0<;>simp[Ln,h]
theorem VW:Ln .rem j a j b=if b=0 then none else some (.int j (a.tmod b)):=by
 by_cases h:b=0<;>simp[Ln,h]
end
theorem B0{b:Bool}:(b !=false)=b:=by cases b<;>rfl
theorem C0{b:Bool}:(b !=true) = !b:=by cases b<;>rfl
theorem D7{b:Bool}:((!b)=false)=(b=true):=by cases b<;>simp
theorem E7{b:Bool}:((!b)=true)=(b=false):=by cases b<;>simp
theorem Sr:sd s []=some []:=daa rfl rfl
theorem Tr{l:List RV}:sd ⟨t,m⟩ (.tmp i::l)=(match sd ⟨t,m⟩ l with|some ds=>some (t.getD i .dead::ds)|none=>none):=by
 simp only[sd,uQ];cases sd ⟨t,m⟩ l<;>rfl
theorem rp{l:List RV}:sd ⟨t,m⟩ (.cell b n i::l)=(match la ⟨t,m⟩ (.load b n (.tmp i)),sd ⟨t,m⟩ l with|some (d,_),some ds=>some (d::ds)|_,_=>none):=by
 simp only[sd,uQ];cases la ⟨t,m⟩ (.load b n (.tmp i))<;>cases sd ⟨t,m⟩ l<;>rfl
end
def zx:=(And.intro (And.intro (And.intro (And.intro (And.intro (And.intro (And.intro (And.intro (And.intro @BV @rW) (And.intro @tW @sW)) (And.intro (And.intro @ZE @GR) (And.intro @qW @q_mv))) (And.intro (And.intro (And.intro @dZ @P7) (And.intro @O7 @q_un)) (And.intro (And.intro @WY @XT) (And.intro @Q7 @YT)))) (And.intro (And.intro (And.intro (And.intro @YP @YY) (And.intro @jU @cZ)) (And.intro (And.intro @iU @ZT) (And.intro @aU @bU))) (And.intro (And.intro (And.intro @WT @cU) (And.intro @LM @T7)) (And.intro (And.intro @fZ @XP) (And.intro @MM @ZP))))) (And.intro (And.intro (And.intro (And.intro (And.intro @XY @q_mm) (And.intro @R7 @gZ)) (And.intro (And.intro @eZ @aQ) (And.intro @fU @gU))) (And.intro (And.intro (And.intro @aZ @ZY) (And.intro @kU @eU)) (And.intro (And.intro @NM @S7) (And.intro @VY @hU)))) (And.intro (And.intro (And.intro (And.intro @dU @O9) (And.intro @N9 @DS)) (And.intro (And.intro @ES @NO) (And.intro @xN @QI))) (And.intro (And.intro (And.intro @SI @CR) (And.intro @rL @BZ)) (And.intro (And.intro @ZQ @cV) (And.intro @JM @IM)))))) (And.intro (And.intro (And.intro (And.intro (And.intro (And.intro @JR @HR) (And.intro @oM @SP)) (And.intro (And.intro @JL @VR) (And.intro @WN @ML))) (And.intro (And.intro (And.intro @bJ @NL) (And.intro @VN @SN)) (And.intro (And.intro @UN @PY) (And.intro @ok_v @J7)))) (And.intro (And.intro (And.intro (And.intro @QY @PT) (And.intro @RY @I7)) (And.intro (And.intro @G7 @H7) (And.intro @QT @MP))) (And.intro (And.intro (And.intro @UT @SY) (And.intro @RT @TT)) (And.intro (And.intro @fT @zY) (And.intro @iT @pP))))) (And.intro (And.intro (And.intro (And.intro (And.intro @XR @aX) (And.intro @YR @dO)) (And.intro (And.intro @UY @TY) (And.intro @vV @E8))) (And.intro (And.intro (And.intro @NZ @wV) (And.intro @MZ @xV)) (And.intro (And.intro @head_cons @UQ) (And.intro @VQ @gK)))) (And.intro (And.intro (And.intro (And.intro @HL @VI) (And.intro @TR @JN)) (And.intro (And.intro @GN @HN) (And.intro @OU @wZ))) (And.intro (And.intro (And.intro @PU @TQ) (And.intro @mT @uP)) (And.intro (And.intro @rS @GO) (And.intro @uS @CZ))))))) (And.intro (And.intro (And.intro (And.intro (And.intro (And.intro (And.intro @DZ @vS) (And.intro @HO @MW)) (And.intro (And.intro @WW @SW) (And.intro @NW @TW))) (And.intro (And.intro (And.intro @RW @QW) (And.intro @PW @OW)) (And.intro (And.intro @UW @VW) (And.intro @B0 @C0)))) (And.intro (And.intro (And.intro (And.intro @D7 @E7) (And.intro @Sr @Tr)) (And.intro (And.intro @rp @Paa.{0}) (And.intro @fab.{0} @zT))) (And.intro (And.intro (And.intro @rT @uT) (And.intro @false_and @and_false)) (And.intro (And.intro @true_or @or_true) (And.intro @or_self @false_or))))) (And.intro (And.intro (And.intro (And.intro (And.intro @or_false @F0) (And.intro @eq_self.{1} @KP)) (And.intro (And.intro @J1 @F1) (And.intro @bne_self_eq_false.{0} @bne_iff_ne.{0}))) (And.intro (And.intro (And.intro @bne_eq_false_iff_eq.{0} @Bool.false_eq_true) (And.intro @Bool.true_eq_false @false_implies)) (And.intro (And.intro @true_implies @implies_true.{1}) (And.intro @not_true_eq_false @not_false_eq_true)))) (And.intro (And.intro (And.intro (And.intro @beq_self_eq_true.{0} @wN) (And.intro @oK @xC)) (And.intro (And.intro @tN @rN) (And.intro @YE @uL))) (And.intro (And.intro (And.intro @KR @uW) (And.intro @tL @FR)) (And.intro (And.intro @pW @DN) (And.intro @qT @Option.bind_some.{0,0})))))) (And.intro (And.intro (And.intro (And.intro (And.intro (And.intro @Nat.mul_one @Int.toNat_natCast) (And.intro @Int.natCast_nonneg @qR)) (And.intro (And.intro @rR @pR) (And.intro @Nat.lt_add_one @kad))) (And.intro (And.intro (And.intro @true_and @and_true) (And.intro @and_self @Bool.or_false)) (And.intro (And.intro @Bool.false_or @Bool.or_true) (And.intro @Bool.true_or @Bool.or_self)))) (And.intro (And.intro (And.intro (And.intro @xL @Rab.{0}) (And.intro @Vac.{0} @Haa.{0})) (And.intro (And.intro @Xaa.{0} @Daa.{0}) (And.intro @Waa.{0} @List.set_cons_succ.{0}))) (And.intro (And.intro (And.intro @List.set_cons_zero.{0} @Gaa.{0,0}) (And.intro @Fab.{0,0} @Cab.{0,0})) (And.intro (And.intro @Option.map_none.{0,0} @LW) (And.intro @decide_true @cond_true.{1}))))) (And.intro (And.intro (And.intro (And.intro (And.intro @cond_false.{1} @if_true.{1}) (And.intro @if_false.{1} @decide_eq_true_eq)) (And.intro (And.intro @decide_eq_false_iff_not @Uaa) (And.intro @paa @Nat.succ_ne_self))) (And.intro (And.intro (And.intro @Bool.not_true @Bool.not_false) (And.intro @yV @decide_false)) (And.intro (And.intro @beq_iff_eq.{0} @beq_eq_false_iff_ne.{0}) (And.intro @ne_eq.{1} @qab)))) (And.intro (And.intro (And.intro (And.intro @Nat.add_zero @nab.{0,0}) (And.intro @oaa @ite_true.{1})) (And.intro (And.intro @ite_false.{1} @Naa.{0}) (And.intro @List.drop_succ_cons.{0} @iac.{0}))) (And.intro (And.intro (And.intro @List.take_succ_cons.{0} @List.take_zero.{0}) (And.intro @List.getElem?_map.{0,0} @List.length_append.{0})) (And.intro (And.intro @Bab @kac) (And.intro @cab.{0} @Aac.{0})))))))) (And.intro (And.intro (And.intro (And.intro @Cab.{0,0} @AY) (And.intro @jT @T9)) (And.intro (And.intro @R9 @S9) (And.intro @laa @Fw))) (And.intro (And.intro (And.intro @Cu @Yl) (And.intro @KK @DW)) (And.intro @bT @rX))))
theorem SU{α:Type}{e:α->D} [Fr e] {f:D->D->Prop}{l:List α}:Zu f (l.map e) (l.map e)=True:=bg (Fr.l l)
theorem nz_S{x:Nat}:(0=x+1)=False:=by simp
theorem nS_z{x:Nat}:(x+1=0)=False:=by simp
theorem nS_S{x y:Nat}:(x+1=y+1)=(x=y):=by simp
def zq:=(And.intro (And.intro (And.intro (And.intro (And.intro (And.intro @nz_S @nS_z) (And.intro @nS_S @SU)) (And.intro (And.intro @RU @WQ) (And.intro @n8 @TU))) (And.intro (And.intro (And.intro @UU @sq_v) (And.intro @xZ @AZ)) (And.intro (And.intro @YU @r8) (And.intro @XU @YQ)))) (And.intro (And.intro (And.intro (And.intro @yZ @XQ) (And.intro @zZ @ZU)) (And.intro (And.intro @q8 @WU) (And.intro @o8 @xX))) (And.intro (And.intro (And.intro @wS @wX) (And.intro @OP @HM)) (And.intro (And.intro @Fw @Cu) (And.intro @p8 @B1))))) (And.intro (And.intro (And.intro (And.intro (And.intro @CS @BX) (And.intro @sX @cab.{0})) (And.intro (And.intro @Aac.{0} @and_self) (And.intro @and_true @true_and))) (And.intro (And.intro (And.intro @or_true @true_or) (And.intro @eq_self.{1} @Paa.{0})) (And.intro (And.intro @fab.{0} @Maa.{0}) (And.intro @xaa.{0,0} @Fab.{0,0})))) (And.intro (And.intro (And.intro (And.intro @Gaa.{0,0} @List.map_append.{0,0}) (And.intro @Xaa.{0} @exists_eq'.{1})) (And.intro (And.intro @paa @Uaa) (And.intro @bne_iff_ne.{0} @ne_eq.{1}))) (And.intro @not_false_eq_true @laa))))
def zs:=(And.intro (And.intro (And.intro @Haa.{0} @Xaa.{0}) (And.intro @Daa.{0} @Waa.{0})) (And.intro (And.intro @qab @Fw) @Cu))
variable {P:Program} {N:Nat}
class StbC (N:Nat) (K:Exit->St->Prop):Prop where
 h:EV N K
instance {b:C}{K:Exit->St->Prop}:StbC N (KS P N b K):=⟨B8⟩
instance {id:Nat}{K:Exit->St->Prop} [h:StbC N K]:StbC N (KB id K):=⟨v8 h.h⟩
instance {σ β ρ:Type}{id:Nat}{K:Exit->St->Prop}{S:σ->St}{B:β->St}{z:Ex σ β ρ}:StbC N (KL N id K S B z):=⟨A8⟩
instance {X R:Type}{K:Exit->St->Prop}{S:X->St}{z:X⊕R}:StbC N (KJ N K S z):=⟨z8⟩
instance {rs:List RV}{o:D}:StbC 0 (uE rs o):=⟨w8⟩
theorem T.rP{σ β ρ:Type}{id:Nat}{K:Exit->St->Prop} [hst:StbC N K] {x:C}{s:St}(S:σ->St) (B:β->St) (step:σ->Option (Ex σ β ρ)) (x0:σ) {y:β⊕ρ}(hy:Tm.fa step x0=some y) (hs:Tells N s (S x0))
 (round:∀a z,step a=some z->(∀v,z=.ret v->y=.inr v)->Tm.T P N x (KL N id K S B z) (S a))
 (rest:∀b,y=.inl b->K .normal (B b)):Tm.T P N (.block id (.loop x)) K s:=T.fa S B step x0 hy hs hst.h round rest
theorem oz:ia []=true:=rfl
theorem iB{α:Type}{e:α->D} [Fr e] {x:α}{l:List D}(h:ia l=true):ia (e x::l)=true:=by
 simp_all[ia,Fr.h]
theorem xK{k:FuncId}{q l:List D}(hc:ia q=true) (h:ia l=true):ia (.fn k [] q::l)=true:=by
 grind[ia,na]
theorem ON{k:Nat}{d d':D}{q:List D}{o:D}{m:List Ent}{f:D->List Ent->Prop}(h:Den P k ([d']++q) o) (hq:ia q=true) (hf:f o m) (hs:Sq [] [] 9 d d'):lg P k (d::q) m f:=
 Rk (m1:=m) (d1:=o) ⟨(h m).1,λG w vs hv hi=>(h m).2 G w vs ((bE (Uu 9 d d' q q hs (Sbs.free hq))).1 vs hv) hi⟩ hf
theorem nW{rs:List RV}{o:D}{s:St}(h:JH (sd s rs) s.m o):uE rs o .normal s:=by
 obtain⟨ds,h1,h2⟩:=h;exact⟨s,.refl s,ds,h1,h2⟩
def Zq{α:Type}(l:List α) (hi:Int):Option (List α):=if 0<=hi/\hi.toNat<=l.length then some (l.take hi.toNat)else none
def aC{α:Type}(l:List α) (lo:Int):Option (List α):=if 0<=lo/\lo.toNat<=l.length then some (l.drop lo.toNat)else none
section
variable {α:Type} {e:α->D} {l r x:List α} {i:Int} {y:α} {b:Nat}
theorem F2(h:idx l i=some y):0<=i/\l[i.toNat]?=some y:=oD h
theorem J2(h:idx l i=some y):0<=i/\l[i.toNat]?=some y/\i.toNat<l.length:=by
 obtain⟨h1,h2⟩:=oD h
 grind
theorem gF(h:app b l r=some x):(l.length+r.length)*b<=2 ^ 47/\l.map e++r.map e=x.map e:=by
 obtain⟨h1,rfl⟩:=FN h
 simp_all
theorem UP(h:put l i y=some x):i.toNat<l.length/\(l.map e).set i.toNat (e y)=x.map e:=by
 obtain⟨h0,h1,rfl⟩:=VP h
 simp_all
theorem yP{n c:Int}(h:sE b y n c=some x):0<=n/\n<=c/\c<=2 ^ 62/\c.toNat*b<=2 ^ 48/\gaa n.toNat (e y)=x.map e:=by
 obtain⟨h0,h1,h2,h3,rfl⟩:=zP h
 simp_all
theorem jK(h:Zq l i=some x):0<=i/\i.toNat<=l.length/\((l.map e).drop 0).take (i.toNat-0)=x.map e:=by
 unfold Zq at h;split at h
 .rename_i hc;obtain rfl:=Faa h
  simp_all
 .cases h
theorem sV(h:Zq l i=some x):0<=i/\i.toNat<=l.length/\(l.map e).take i.toNat=x.map e:=by
 obtain⟨h1,h2,h3⟩:=jK (e:=e) h
 simp_all
theorem cR(h:aC l i=some x):0<=i/\i.toNat<=l.length/\((l.map e).drop i.toNat).take (l.length-i.toNat)=x.map e:=by
 unfold aC at h;split at h
 .rename_i hc;obtain rfl:=Faa h
  grind[List.map_drop,Mac]
 .cases h
theorem yK(h:aC l i=some x):0<=i/\i.toNat<=l.length/\((l.map e).take l.length).drop i.toNat=x.map e:=by
 obtain⟨h1,h2,h3⟩:=cR (e:=e) h
 grind[Mac]
theorem EZ(h:aC l i=some x):0<=i/\i.toNat<=l.length/\i.toNat+x.length<=l.length/\l.length-i.toNat=x.length/\((l.map e).drop i.toNat).take x.length=x.map e:=by
 obtain⟨h1,h2,h3⟩:=cR (e:=e) h;have h4:l.length-i.toNat=x.length:=by
  have:=congrArg List.length h3
  grind
 grind
theorem U7{k:IntKind}{a c d:Int}(h:quo k a c=some d):¬c=0/\ea k (a.tdiv c)=d:=by
 grind[quo]
theorem fW{k:IntKind}{a c d:Int}(h:rem k a c=some d):¬c=0/\a.tmod c=d:=by
 grind[rem]
end
theorem pA:∀n:Nat,Tm.ds n []=gaa n .dead
 |0=>rfl
 |n+1=>by rw[Cu,pA n];rfl
theorem Den.at{k:Nat}{F:Fun}{l:List D}{o:D}(n:Nat) (hF:Pt P k=some F) (hname:((P.funcs[k]?).map λfn=>fn.name == "runtime.NumGoroutine")=some false) (hf:ia l=true)
 (hn:F.ntmps=l.length+n) (h:T P 0 F.code (uE F.results o) ⟨l++Tm.ds n [],[]⟩):Den P k l o:=by
 grind[Den.of,pA]
section
variable {P:Program} {N:Nat} {ops:Array Oper} {Q:Exit->Act->World->Prop} {K:St->Prop} {rl:List RI} {q:Nat} {ps:List (List Nat)}
def GM(R:List (List Nat)->St->Prop) (fp:List (List Nat)) (p:List Nat) (dst:Option Tmp) (i:I) (s:St):Prop:=
 Ly fp (Jk s (.op dst none i)) p=true/\Qe s i=true/\jt (la s i) (KO (R (fp++[Jk s (.op dst none i)])) s dst)
def vZ(R:List (List Nat)->St->Prop) (fp:List (List Nat)) (p:List Nat) (dst:Option Tmp) (i:I) (s:St):Prop:=
 Ly fp (Jk s (.op dst none i)) p=true/\R (fp++[Jk s (.op dst none i)]) (s.put dst (.v undef))
def Nt(P:Program) (k:FuncId) (ds:List D) (ids:List Nat) (R:St->Prop) (s:St) (dst:Option Tmp):Prop:=
 ∃d,((∀id∈ids,id<s.m.length)/\∀m,(∀id∈ids,m[id]?=s.m[id]?)->CallT P k ds m λd' m'=>d'=d/\m'=m)/\R (s.put dst d)
def XN(P:Program) (R:List (List Nat)->St->Prop) (fp:List (List Nat)) (p:List Nat) (k:FuncId) (dst:Option Tmp) (args:List Operand) (s:St):Prop:=Ly fp (Cb s args) p=true/\Nt P k (args.map s.ev) (Cb s args) (R (fp++[Cb s args])) s dst
def L0(R:List (List Nat)->St->Prop) (fp:List (List Nat)) (p:List Nat) (dst:Option Tmp) (args:List Operand) (s:St):Prop:=Ly fp (Cb s args) p=true/\R (fp++[Cb s args]) (s.put dst (.v undef))
def ft(P:Program):List (List Nat)->Nat->List RI->(St->Prop)->List (List Nat)->St->Prop
 |_,0,l,K,_,s=>wh P l K s
 |_,_+1,[],_,_,_=>False
 |ps,q+1,.op dst none i::l,K,fp,s=>GM (ft P ps.tail q l K) fp (ps.headD []) dst i s
 |ps,q+1,.op dst (some (t,b)) i::l,K,fp,s=>
  gD (s.t.getD t .dead) b (GM (ft P ps.tail q l K) fp (ps.headD []) dst i) ⟨s.t.set t (.v (.bool b)),s.m⟩ (vZ (ft P ps.tail q l K) fp (ps.headD []) dst i) ⟨s.t.set t (.v (.bool (!b))),s.m⟩ s
 |ps,q+1,.call dst none (.func k) args::l,K,fp,s=>XN P (ft P ps.tail q l K) fp (ps.headD []) k dst args s
 |ps,q+1,.call dst (some (t,b)) (.func k) args::l,K,fp,s=>
  gD (s.t.getD t .dead) b (XN P (ft P ps.tail q l K) fp (ps.headD []) k dst args) ⟨s.t.set t (.v (.bool b)),s.m⟩ (L0 (ft P ps.tail q l K) fp (ps.headD []) dst args) ⟨s.t.set t (.v (.bool (!b))),s.m⟩ s
 |_,_+1,.call ..::_,_,_,_=>False
theorem cD{d:D}{b:Bool}{t:List D}{i:Nat}(hd:t.getD i .dead=d) {m:List Ent}{R1 R2:St->Prop}(h:gD d b R1 ⟨t.set i (.v (.bool b)),m⟩ R2 ⟨t.set i (.v (.bool (!b))),m⟩ ⟨t,m⟩) :
 match gate ⟨t,m⟩ (some (i,b))with
 |none=>False
 |some none=>True
 |some (some (c,b))=>(c=b->R1 ⟨t,m⟩)/\(c≠b->R2 ⟨t,m⟩):=by
 simp only[gate,hd];unfold gD at h
 cases d with
 |v x=>
  cases x with
  |bool c=>
   simp only[gQ]at h⊢;have hs:=Vz hd (by simp);refine⟨λhc=>?_,λhc=>?_⟩
   .subst hc;have:=h.1 rfl
    simp_all
   .have:=h.2 hc;rwa [show(!b)=c by cases b<;>cases c<;>simp_all,hs]at this
  |_=>cases b<;>simpa using h
 |_=>exact h
theorem aB:∀{q:Nat}{l:List RI}{ps:List (List Nat)}{fp:List (List Nat)}{s:St},ft P ps q l K fp s->xv P ps fp q l K s
 |0,l,ps,fp,s,h=>by simp only[ft]at h;simp only[xv];exact Su h
 |q+1,[],ps,fp,s,h=>by simp only[ft]at h
 |q+1,.op dst none i::l,ps,fp,s,h=>by
  simp only[ft,GM]at h;obtain⟨h1,h0,h2⟩:=h;simp only[xv,gate];obtain⟨d,m',h3,h4⟩:=(Mt _ _).1 h2;exact⟨h1,d,m',h0,h3,aB h4⟩
 |q+1,.op dst (some (t,b)) i::l,ps,fp,⟨st,sm⟩,h=>by
  simp only[ft]at h;have h:=cD rfl h;have hrid:∀s,Jk s (.op dst (some (t,b)) i)=Jk s (.op dst none i):=λ_=>rfl;simp only[xv];rw[hrid];split at h
  .simp_all
  .grind[gate]
  .rename_i c b' hg;simp only[hg];by_cases hc:c=b'
   .obtain⟨h1,h0,h2⟩:=h.1 hc;obtain⟨d,m',h3,h4⟩:=(Mt _ _).1 h2;exact⟨h1,λ_=>⟨d,m',h0,h3,aB h4⟩,λhn=>(hn hc).elim⟩
   .obtain⟨h1,h2⟩:=h.2 hc;exact⟨h1,λhn=>(hc hn).elim,λ_=>aB h2⟩
 |q+1,.call dst none (.func k) args::l,ps,fp,s,h=>by
  simp only[ft,XN,Nt]at h;obtain⟨h0,d,h1,h2⟩:=h;simp only[xv,gate];exact⟨h0,d,by simp_all,aB h2⟩
 |q+1,.call dst (some (t,b)) (.func k) args::l,ps,fp,⟨st,sm⟩,h=>by
  simp only[ft]at h;have h:=cD rfl h;simp only[xv];have hev:St.cv ⟨st,sm⟩ (.func k)=.fn k [] []:=rfl;simp only[hev];split at h
  .simp_all
  .grind[gate]
  .rename_i c b' hg;simp only[hg];by_cases hc:c=b'
   .obtain⟨h0,d,h1,h2⟩:=h.1 hc;exact⟨h0,λ_=>⟨d,by simp_all,aB h2⟩,λhn=>(hn hc).elim⟩
   .obtain⟨h0,h2⟩:=h.2 hc;exact⟨h0,λhn=>(hc hn).elim,λ_=>aB h2⟩
 |q+1,.call dst none (.tmp _) args::l,ps,fp,s,h=>by simp only[ft]at h
 |q+1,.call dst none (.const _) args::l,ps,fp,s,h=>by simp only[ft]at h
 |q+1,.call dst none (.global _) args::l,ps,fp,s,h=>by simp only[ft]at h
 |q+1,.call dst (some _) (.tmp _) args::l,ps,fp,s,h=>by simp only[ft]at h
 |q+1,.call dst (some _) (.const _) args::l,ps,fp,s,h=>by simp only[ft]at h
 |q+1,.call dst (some _) (.global _) args::l,ps,fp,s,h=>by simp only[ft]at h
 |q+1,.call dst none (.meth _ _) args::l,ps,fp,s,h=>by simp only[ft]at h
 |q+1,.call dst (some _) (.meth _ _) args::l,ps,fp,s,h=>by simp only[ft]at h
theorem T.dy(hm:P.follows .mixedOrders=true) {l:List RI}{K:Exit->St->Prop}{s:St}(h:ft P [] q l (K .normal) [] s):T P N (.draw q l) K s:=
 T.W0 hm (Is (aB h))
theorem T.ay(hm:P.follows .mixedOrders=true) {cuts:List Nat}{bs:List (List Nat)}{l:List RI}{K:Exit->St->Prop}{s:St}(ps:List (List Nat)) (hok:Js bs l q ps []=true) (h:ft P ps q l (K .normal) [] s):T P N (.any cuts q bs l) K s:=
 T.P8 hm ps hok (aB h)
end
section
variable {P:Program}
theorem YF{k:Nat}{ds ds':List D}{o:D}{R:St->Prop}{s:St}{dst:Option Tmp}(h:Den P k ds' o) (hf:R (s.put dst o)) (hs:WA (Sq [] [] 9) ds ds'):Nt P k ds [] R s dst:=
 ⟨o,⟨λ_ h=>(by cases h),λm _=>⟨(h m).1,λG w vs hv hi=>(h m).2 G w vs ((bE (Pw (Uu 9) hs)).1 vs hv) hi⟩⟩,hf⟩
def Lq(m:List Ent) (d e:D):Prop:=
 match d,e with
 |.own j v,.sl S b=>match m[j]? with|some (.live S' v' a)=>S'=S/\v'=v/\a=b/\ia a=true|_=>False
 |.view j v lo n,.sl S b=>match m[j]? with|some (.live S' v' a)=>S'=S/\v'=v/\lo+n<=a.length/\(a.drop lo).take n=b/\ia b=true|_=>False
 |.ref j v x s,.pt e=>match m[j]? with|some (.live _ v' a)=>v'=v/\s=0/\a[x]?=some e/\na e=true|_=>False
 |d,e=>Sq [] [] 9 d e
theorem uZ{l r:List D}(h:Sbs [] [] l r) (m:List Ent):Sbs [] m l r:=by
 induction h with
 |nil=>exact .nil
 |same hf h ih=>exact .same hf ih
 |dead h ih=>exact .dead ih
 |nils h ih=>exact .nils ih
 |agg ha h iha ih=>exact .agg iha ih
 |tup ha h iha ih=>exact .tup iha ih
 |sl ha h iha ih=>exact .sl iha ih
 |pt ha h iha ih=>exact .pt iha ih
 |fn ha hc h iha ihc ih=>exact .fn iha ihc ih
 |ifc ha h iha ih=>exact .ifc iha ih
 |adopt i hi=>simp at hi
 |own hi=>simp at hi
 |ref hi=>simp at hi
 |view hi=>simp at hi
 |mp hi=>simp at hi
 |Cd hm=>simp at hm
 |fview hm=>simp at hm
 |fref hm=>simp at hm
theorem FY{m m':List Ent}{ids:List Nat}(hm:∀id∈ids,m'[id]?=m[id]?) {d e:D}{l r:List D}(h:Lq m d e) (hid:(match Od d with|some j=>ids.contains j|none=>true)=true) (hs:Sbs [] m' l r):Sbs [] m' (d::l) (e::r):=by
 unfold Lq at h;split at h
 .rename_i j v S b;simp only[Od,Eab]at hid;split at h
  .rename_i S' v' a hj;obtain⟨rfl,rfl,rfl,hf⟩:=h;exact .Cd (by simp_all) rfl (Sbs.free hf) hs
  simp_all
 .rename_i j v lo n S b;simp only[Od,Eab]at hid;split at h
  .rename_i S' v' a hj;obtain⟨rfl,rfl,hn,rfl,hf⟩:=h;exact .fview (by simp_all) rfl hn (Sbs.free hf) hs
  simp_all
 .rename_i j v x s e;simp only[Od,Eab]at hid;split at h
  .rename_i S' v' a hj;obtain⟨rfl,rfl,hx,hf⟩:=h;exact .fref (by rw[hm j hid];omega) rfl hx (.same hf .nil) hs
  simp_all
 .have h1:=uZ (Uu 9 d e [] [] h .nil) m';exact Sbs.app (a:=[d]) (b:=[e]) h1 hs
def DB(ids:List Nat) (ds:List D):Bool:=ds.all λd=>match Od d with|some j=>ids.contains j|none=>true
theorem oC{m m':List Ent}{ids:List Nat}(hm:∀id∈ids,m'[id]?=m[id]?):∀{a b:List D},WA (Lq m) a b->DB ids a=true->Sbs [] m' a b
 |[],[],_,_=>.nil
 |d::l,e::r,h,ht=>by
  simp only[DB,Qab,laa]at ht;exact FY hm h.1 ht.1 (oC hm h.2 ht.2)
 |[],_::_,h,_=>h.elim
 |_::_,[],h,_=>h.elim
theorem zC{k:Nat}{ids:List Nat}{ds ds':List D}{o:D}{R:St->Prop}{s:St}{dst:Option Tmp}(h:Den P k ds' o) (hf:R (s.put dst o)) (hfl:flat o=true) (hi:(ids.all λi=>decide (i<s.m.length))=true) (ht:DB ids ds=true) (hs:WA (Lq s.m) ds ds'):Nt P k ds ids R s dst:=by
 refine⟨o,⟨λid hid=>?_,λm hm=>?_⟩,hf⟩
 .simp_all
 .exact Qx h (oC hm hs ht) hfl ⟨rfl,rfl⟩
variable {m:List Ent} {S x y lo n s:Nat} {b:List D} {e:D}
theorem DY:Lq m (.own x y) (.sl S b)=(match m[x]? with|some (.live S' v' a)=>S'=S/\v'=y/\a=b/\ia a=true|_=>False):=daa rfl rfl
theorem kT:Lq m (.view x y lo n) (.sl S b)=(match m[x]? with|some (.live S' v' a)=>S'=S/\v'=y/\lo+n<=a.length/\(a.drop lo).take n=b/\ia b=true|_=>False):=daa rfl rfl
theorem EY{z:Nat}:Lq m (.ref x y z s) (.pt e)=(match m[x]? with|some (.live _ v' a)=>v'=y/\s=0/\a[z]?=some e/\na e=true|_=>False):=daa rfl rfl
theorem lq_v{z:Value}:Lq m (.v z) e=Sq [] [] 9 (.v z) e:=daa rfl rfl
theorem BY{z:List D}:Lq m (.agg z) e=Sq [] [] 9 (.agg z) e:=daa rfl rfl
theorem r7{z:List D}:Lq m (.sl S z) e=Sq [] [] 9 (.sl S z) e:=daa rfl rfl
theorem q7{z:D}:Lq m (.pt z) e=Sq [] [] 9 (.pt z) e:=daa rfl rfl
theorem o7{α:Type}{f:α->D} [Fr f] {l:List α}:ia (l.map f)=true:=Fr.l l
theorem CY{α:Type}{f:α->D}{l:List α}:(l.map f).length=l.length:=nab f
end
variable {P:Program}
theorem W7{s:St}{d:Option Tmp}{g:Option (Tmp×Bool)}{u0:Operand}:Jk s (.op d g (.mv u0))=[]:=daa rfl rfl
theorem Z7{s:St}{u0:Operand}:Qe s (.mv u0)=true:=daa rfl rfl
theorem sU{s:St}{d:Option Tmp}{g:Option (Tmp×Bool)}{u0:Operand}{u1:Operand}{u2:Operand}:Jk s (.op d g (.pick u0 u1 u2))=[]:=daa rfl rfl
theorem HU{s:St}{u0:Operand}{u1:Operand}{u2:Operand}:Qe s (.pick u0 u1 u2)=true:=daa rfl rfl
theorem iZ{s:St}{d:Option Tmp}{g:Option (Tmp×Bool)}{u0:BinOp}{u1:Operand}{u2:Operand}:Jk s (.op d g (.bin u0 u1 u2))=[]:=daa rfl rfl
theorem pZ{s:St}{u0:BinOp}{u1:Operand}{u2:Operand}:Qe s (.bin u0 u1 u2)=true:=daa rfl rfl
theorem hZ{s:St}{d:Option Tmp}{g:Option (Tmp×Bool)}{u0:Bool}{u1:Operand}{u2:Operand}:Jk s (.op d g (.beq u0 u1 u2))=[]:=daa rfl rfl
theorem oZ{s:St}{u0:Bool}{u1:Operand}{u2:Operand}:Qe s (.beq u0 u1 u2)=true:=daa rfl rfl
theorem X7{s:St}{d:Option Tmp}{g:Option (Tmp×Bool)}{u0:UnOp}{u1:Operand}:Jk s (.op d g (.un u0 u1))=[]:=daa rfl rfl
theorem a8{s:St}{u0:UnOp}{u1:Operand}:Qe s (.un u0 u1)=true:=daa rfl rfl
theorem mU{s:St}{d:Option Tmp}{g:Option (Tmp×Bool)}{u0:IntKind}{u1:Operand}:Jk s (.op d g (.conv u0 u1))=[]:=daa rfl rfl
theorem BU{s:St}{u0:IntKind}{u1:Operand}:Qe s (.conv u0 u1)=true:=daa rfl rfl
theorem dQ{s:St}{d:Option Tmp}{g:Option (Tmp×Bool)}{u0:Nat}{u1:D}:Jk s (.op d g (.alloc u0 u1))=[]:=daa rfl rfl
theorem AQ{s:St}{u0:Nat}{u1:D}:Qe s (.alloc u0 u1)=true:=daa rfl rfl
theorem jZ{s:St}{d:Option Tmp}{g:Option (Tmp×Bool)}{u0:Nat}{u1:Operand}:Jk s (.op d g (.box u0 u1))=[]:=daa rfl rfl
theorem qZ{s:St}{u0:Nat}{u1:Operand}:Qe s (.box u0 u1)=true:=daa rfl rfl
theorem eQ{s:St}{d:Option Tmp}{g:Option (Tmp×Bool)}{u0:List D}{u1:List (Nat×Nat×Operand)}:Jk s (.op d g (.build u0 u1))=[]:=daa rfl rfl
theorem BQ{s:St}{u0:List D}{u1:List (Nat×Nat×Operand)}:Qe s (.build u0 u1)=true:=daa rfl rfl
theorem PM{s:St}{d:Option Tmp}{g:Option (Tmp×Bool)}{u0:Nat}{u1:Nat}{u2:D}{u3:List (Nat×Operand)}:Jk s (.op d g (.bslice u0 u1 u2 u3))=[]:=daa rfl rfl
theorem aN{s:St}{u0:Nat}{u1:Nat}{u2:D}{u3:List (Nat×Operand)}:Qe s (.bslice u0 u1 u2 u3)=true:=daa rfl rfl
theorem oU{s:St}{d:Option Tmp}{g:Option (Tmp×Bool)}{u0:Bool}{u1:Nat}{u2:Operand}:Jk s (.op d g (.load u0 u1 u2))=Aq s [u2]:=daa rfl rfl
theorem DU{s:St}{u0:Bool}{u1:Nat}{u2:Operand}:Qe s (.load u0 u1 u2)=true:=daa rfl rfl
theorem rQ{s:St}{d:Option Tmp}{g:Option (Tmp×Bool)}{u0:Nat}{u1:Operand}{u2:Operand}:Jk s (.op d g (.store u0 u1 u2))=Aq s [u1]:=daa rfl rfl
theorem NQ{s:St}{u0:Nat}{u1:Operand}{u2:Operand}:Qe s (.store u0 u1 u2)=true:=daa rfl rfl
theorem rU{s:St}{d:Option Tmp}{g:Option (Tmp×Bool)}{u0:Operand}:Jk s (.op d g (.nilc u0))=[]:=daa rfl rfl
theorem GU{s:St}{u0:Operand}:Qe s (.nilc u0)=true:=daa rfl rfl
theorem qQ{s:St}{d:Option Tmp}{g:Option (Tmp×Bool)}{u0:Nat}{u1:Operand}{u2:Option Operand}{u3:Option Operand}{u4:Option Operand}:Jk s (.op d g (.slice u0 u1 u2 u3 u4))=Aq s [u1]:=daa rfl rfl
theorem MQ{s:St}{u0:Nat}{u1:Operand}{u2:Option Operand}{u3:Option Operand}{u4:Option Operand}:Qe s (.slice u0 u1 u2 u3 u4)=true:=daa rfl rfl
theorem fQ{s:St}{d:Option Tmp}{g:Option (Tmp×Bool)}{u0:Bool}{u1:Nat}{u2:Nat}{u3:Operand}:Jk s (.op d g (.faddr u0 u1 u2 u3))=[]:=daa rfl rfl
theorem CQ{s:St}{u0:Bool}{u1:Nat}{u2:Nat}{u3:Operand}:Qe s (.faddr u0 u1 u2 u3)=true:=daa rfl rfl
theorem iQ{s:St}{d:Option Tmp}{g:Option (Tmp×Bool)}{u0:Bool}{u1:Nat}{u2:Nat}{u3:Operand}:Jk s (.op d g (.field u0 u1 u2 u3))=[]:=daa rfl rfl
theorem DQ{s:St}{u0:Bool}{u1:Nat}{u2:Nat}{u3:Operand}:Qe s (.field u0 u1 u2 u3)=true:=daa rfl rfl
theorem jQ{s:St}{d:Option Tmp}{g:Option (Tmp×Bool)}{u0:Nat}{u1:Operand}{u2:Operand}:Jk s (.op d g (.iaddr u0 u1 u2))=Aq s [u1]:=daa rfl rfl
theorem FQ{s:St}{u0:Nat}{u1:Operand}{u2:Operand}:Qe s (.iaddr u0 u1 u2)=true:=daa rfl rfl
theorem cQ{s:St}{d:Option Tmp}{g:Option (Tmp×Bool)}{u0:Bool}{u1:Nat}{u2:Nat}{u3:Operand}{u4:Operand}:Jk s (.op d g (.aaddr u0 u1 u2 u3 u4))=[]:=daa rfl rfl
theorem zQ{s:St}{u0:Bool}{u1:Nat}{u2:Nat}{u3:Operand}{u4:Operand}:Qe s (.aaddr u0 u1 u2 u3 u4)=true:=daa rfl rfl
theorem kQ{s:St}{d:Option Tmp}{g:Option (Tmp×Bool)}{u0:Bool}{u1:Nat}{u2:Nat}{u3:Operand}{u4:Operand}:Jk s (.op d g (.index u0 u1 u2 u3 u4))=[]:=daa rfl rfl
theorem GQ{s:St}{u0:Bool}{u1:Nat}{u2:Nat}{u3:Operand}{u4:Operand}:Qe s (.index u0 u1 u2 u3 u4)=true:=daa rfl rfl
theorem MJ{s:St}{d:Option Tmp}{g:Option (Tmp×Bool)}{u0:Operand}{u1:Nat}:Jk s (.op d g (.extract u0 u1))=[]:=daa rfl rfl
theorem YJ{s:St}{u0:Operand}{u1:Nat}:Qe s (.extract u0 u1)=true:=daa rfl rfl
theorem mZ{s:St}{d:Option Tmp}{g:Option (Tmp×Bool)}{u0:Operand}:Jk s (.op d g (.len u0))=Aq s [u0]:=daa rfl rfl
theorem tZ{s:St}{u0:Operand}:Qe s (.len u0)=true:=daa rfl rfl
theorem uU{s:St}{d:Option Tmp}{g:Option (Tmp×Bool)}{u0:Operand}:Jk s (.op d g (.slen u0))=[]:=daa rfl rfl
theorem JU{s:St}{u0:Operand}:Qe s (.slen u0)=true:=daa rfl rfl
theorem OM{s:St}{d:Option Tmp}{g:Option (Tmp×Bool)}{u0:Nat}{u1:Nat}{u2:Operand}{u3:Operand}:Jk s (.op d g (.append u0 u1 u2 u3))=Aq s [u2,u3]:=daa rfl rfl
theorem ZM{s:St}{u0:Nat}{u1:Nat}{u2:Operand}{u3:Operand}:Qe s (.append u0 u1 u2 u3)=(match s.ev u2 with|.own ..=>true|_=>false):=daa rfl rfl
theorem NJ{s:St}{d:Option Tmp}{g:Option (Tmp×Bool)}{u0:Nat}{u1:Nat}{u2:D}{u3:Operand}{u4:Operand}:Jk s (.op d g (.mkslice u0 u1 u2 u3 u4))=[]:=daa rfl rfl
theorem ZJ{s:St}{u0:Nat}{u1:Nat}{u2:D}{u3:Operand}{u4:Operand}:Qe s (.mkslice u0 u1 u2 u3 u4)=true:=daa rfl rfl
theorem QM{s:St}{d:Option Tmp}{g:Option (Tmp×Bool)}{u0:FuncId}{u1:List Operand}{u2:List Operand}:Jk s (.op d g (.mkfunc u0 u1 u2))=[]:=daa rfl rfl
theorem bN{s:St}{u0:FuncId}{u1:List Operand}{u2:List Operand}:Qe s (.mkfunc u0 u1 u2)=true:=daa rfl rfl
theorem nU{s:St}{d:Option Tmp}{g:Option (Tmp×Bool)}  : Jk s (.op d g (.fail))=[]:=daa rfl rfl
theorem CU{s:St}  : Qe s (.fail)=true:=daa rfl rfl
theorem V7{s:St}{d:Option Tmp}{g:Option (Tmp×Bool)}{u0:Bool}{u1:List Operand}:Jk s (.op d g (.mm u0 u1))=[]:=daa rfl rfl
theorem Y7{s:St}{u0:Bool}{u1:List Operand}:Qe s (.mm u0 u1)=true:=daa rfl rfl
theorem kZ{s:St}{d:Option Tmp}{g:Option (Tmp×Bool)}{u0:Bool}{u1:List Nat}{u2:Operand}{u3:Operand}:Jk s (.op d g (.ceq u0 u1 u2 u3))=[]:=daa rfl rfl
theorem rZ{s:St}{u0:Bool}{u1:List Nat}{u2:Operand}{u3:Operand}:Qe s (.ceq u0 u1 u2 u3)=true:=daa rfl rfl
theorem vU{s:St}{d:Option Tmp}{g:Option (Tmp×Bool)}{u0:Nat}{u1:Operand}:Jk s (.op d g (.strb u0 u1))=[]:=daa rfl rfl
theorem KU{s:St}{u0:Nat}{u1:Operand}:Qe s (.strb u0 u1)=true:=daa rfl rfl
theorem tU{s:St}{d:Option Tmp}{g:Option (Tmp×Bool)}{u0:Operand}{u1:Operand}:Jk s (.op d g (.Zr u0 u1))=[]:=daa rfl rfl
theorem IU{s:St}{u0:Operand}{u1:Operand}:Qe s (.Zr u0 u1)=true:=daa rfl rfl
theorem RM{s:St}{d:Option Tmp}{g:Option (Tmp×Bool)}{u0:Operand}{u1:Option Operand}{u2:Option Operand}:Jk s (.op d g (.sslice u0 u1 u2))=[]:=daa rfl rfl
theorem dN{s:St}{u0:Operand}{u1:Option Operand}{u2:Option Operand}:Qe s (.sslice u0 u1 u2)=true:=daa rfl rfl
theorem nQ{s:St}{d:Option Tmp}{g:Option (Tmp×Bool)}  : Jk s (.op d g (.mkmap))=[]:=daa rfl rfl
theorem JQ{s:St}  : Qe s (.mkmap)=true:=daa rfl rfl
theorem oQ{s:St}{d:Option Tmp}{g:Option (Tmp×Bool)}{u0:Nat}{u1:Bool}{u2:D}{u3:Operand}{u4:Operand}:Jk s (.op d g (.mlook u0 u1 u2 u3 u4))=Aq s [u3]:=daa rfl rfl
theorem KQ{s:St}{u0:Nat}{u1:Bool}{u2:D}{u3:Operand}{u4:Operand}:Qe s (.mlook u0 u1 u2 u3 u4)=true:=daa rfl rfl
theorem qU{s:St}{d:Option Tmp}{g:Option (Tmp×Bool)}{u0:Nat}{u1:Operand}{u2:Operand}{u3:Operand}:Jk s (.op d g (.mput u0 u1 u2 u3))=[]:=daa rfl rfl
theorem FU{s:St}{u0:Nat}{u1:Operand}{u2:Operand}{u3:Operand}:Qe s (.mput u0 u1 u2 u3)=true:=daa rfl rfl
theorem pU{s:St}{d:Option Tmp}{g:Option (Tmp×Bool)}{u0:Operand}:Jk s (.op d g (.mlen u0))=Aq s [u0]:=daa rfl rfl
theorem EU{s:St}{u0:Operand}:Qe s (.mlen u0)=true:=daa rfl rfl
theorem sQ{s:St}{d:Option Tmp}{g:Option (Tmp×Bool)}{u0:Nat}{u1:Operand}{u2:Option Operand}{u3:Option Operand}:Jk s (.op d g (.trunc u0 u1 u2 u3))=Aq s [u1]:=daa rfl rfl
theorem OQ{s:St}{u0:Nat}{u1:Operand}{u2:Option Operand}{u3:Option Operand}:Qe s (.trunc u0 u1 u2 u3)=(match s.ev u1 with|.own ..=>true|_=>false):=daa rfl rfl
theorem mQ{s:St}{d:Option Tmp}{g:Option (Tmp×Bool)}{u0:TypeId}{u1:Operand}:Jk s (.op d g (.mkifc u0 u1))=[]:=daa rfl rfl
theorem IQ{s:St}{u0:TypeId}{u1:Operand}:Qe s (.mkifc u0 u1)=true:=daa rfl rfl
theorem OJ{s:St}{d:Option Tmp}{g:Option (Tmp×Bool)}{u0:Bool}{u1:TypeId}{u2:D}{u3:Operand}:Jk s (.op d g (.tassert u0 u1 u2 u3))=[]:=daa rfl rfl
theorem aK{s:St}{u0:Bool}{u1:TypeId}{u2:D}{u3:Operand}:Qe s (.tassert u0 u1 u2 u3)=true:=daa rfl rfl
theorem lZ{s:St}{d:Option Tmp}{g:Option (Tmp×Bool)}{u0:Nat}{u1:D}{u2:Operand}:Jk s (.op d g (.clr u0 u1 u2))=[]:=daa rfl rfl
theorem sZ{s:St}{u0:Nat}{u1:D}{u2:Operand}:Qe s (.clr u0 u1 u2)=true:=daa rfl rfl
theorem lU{s:St}{d:Option Tmp}{g:Option (Tmp×Bool)}{u0:Operand}:Jk s (.op d g (.capn u0))=[]:=daa rfl rfl
theorem AU{s:St}{u0:Operand}:Qe s (.capn u0)=true:=daa rfl rfl
theorem pQ{s:St}{d:Option Tmp}{g:Option (Tmp×Bool)}{u0:Bool}{u1:Operand}:Jk s (.op d g (.Gr u0 u1))=Aq s [u1]:=daa rfl rfl
theorem LQ{s:St}{u0:Bool}{u1:Operand}:Qe s (.Gr u0 u1)=true:=daa rfl rfl
theorem lQ{s:St}{d:Option Tmp}{g:Option (Tmp×Bool)}{u0:Nat}{u1:Nat}{u2:D}{u3:Operand}{u4:Operand}:Jk s (.op d g (.mkapp u0 u1 u2 u3 u4))=[]:=daa rfl rfl
theorem HQ{s:St}{u0:Nat}{u1:Nat}{u2:D}{u3:Operand}{u4:Operand}:Qe s (.mkapp u0 u1 u2 u3 u4)=true:=daa rfl rfl
section
variable {ps:List (List Nat)} {q k t:Nat} {b:Bool} {dst:Option Tmp} {i:I} {l:List RI} {K:St->Prop} {fp:List (List Nat)} {s:St} {args:List Operand} {R:List (List Nat)->St->Prop} {p f g:List Nat} {x y:Nat} {o:Operand} {os:List Operand} {st:List D} {m:List Ent} {S:Nat} {r:List D}
theorem jS:ft P ps 0 l K fp s=wh P l K s:=by simp only[ft]
theorem Y0:ft P ps (q+1) (.op dst none i::l) K fp s=GM (ft P ps.tail q l K) fp (ps.headD []) dst i s:=by simp only[ft]
theorem pX:ft P ps (q+1) (.op dst (some (t,b)) i::l) K fp ⟨st,m⟩=gD (st.getD t .dead) b (GM (ft P ps.tail q l K) fp (ps.headD []) dst i) ⟨st.set t (.v (.bool b)),m⟩ (vZ (ft P ps.tail q l K) fp (ps.headD []) dst i) ⟨st.set t (.v (.bool (!b))),m⟩ ⟨st,m⟩:=by simp only[ft]
theorem iS:ft P ps (q+1) (.call dst none (.func k) args::l) K fp s=XN P (ft P ps.tail q l K) fp (ps.headD []) k dst args s:=by simp only[ft]
theorem xO:ft P ps (q+1) (.call dst (some (t,b)) (.func k) args::l) K fp ⟨st,m⟩=gD (st.getD t .dead) b (XN P (ft P ps.tail q l K) fp (ps.headD []) k dst args) ⟨st.set t (.v (.bool b)),m⟩ (L0 (ft P ps.tail q l K) fp (ps.headD []) dst args) ⟨st.set t (.v (.bool (!b))),m⟩ ⟨st,m⟩:=by simp only[ft]
theorem M7:GM R fp p dst i s=(Ly fp (Jk s (.op dst none i)) p=true/\Qe s i=true/\jt (la s i) (KO (R (fp++[Jk s (.op dst none i)])) s dst)):=daa rfl rfl
theorem l8:vZ R fp p dst i s=(Ly fp (Jk s (.op dst none i)) p=true/\R (fp++[Jk s (.op dst none i)]) (s.put dst (.v undef))):=daa rfl rfl
theorem G0:XN P R fp p k dst args s=(Ly fp (Cb s args) p=true/\Nt P k (args.map s.ev) (Cb s args) (R (fp++[Cb s args])) s dst):=daa rfl rfl
theorem M0:L0 R fp p dst args s=(Ly fp (Cb s args) p=true/\R (fp++[Cb s args]) (s.put dst (.v undef))):=daa rfl rfl
theorem IZ:Cb s []=[]:=daa rfl rfl
theorem jV:Cb s (o::os)=zk (s.ev o)++Cb s os:=daa rfl rfl
theorem W9{z:Value}:zk (.v z)=[]:=daa rfl rfl
theorem eY:zk (.agg r)=qj r:=daa rfl rfl
theorem iY:zk (.tup r)=qj r:=daa rfl rfl
theorem E2:zk (.sl S r)=qj r:=daa rfl rfl
theorem D2{d:D}:zk (.pt d)=zk d:=daa rfl rfl
theorem C2{a c:List D}:zk (.fn k a c)=qj a++qj c:=daa rfl rfl
theorem XS:zk .dead=[]:=daa rfl rfl
theorem gY:zk (.own x y)=[x]:=daa rfl rfl
theorem hY{u v:Nat}:zk (.ref x y u v)=[x]:=daa rfl rfl
theorem YS{u v:Nat}:zk (.view x y u v)=[x]:=daa rfl rfl
theorem fY:qj []=[]:=daa rfl rfl
theorem WS{d:D}:qj (d::r)=zk d++qj r:=daa rfl rfl
theorem id_map{α:Type}{f:α->D} [Fr f] {l:List α}:qj (l.map f)=[]:=Ar (Fr.l l)
theorem mR:Aq s []=[]:=daa rfl rfl
theorem lN:Aq s (o::os)=(match Od (s.ev o)with|some id=>id::Aq s os|none=>Aq s os):=daa rfl rfl
theorem GW:Ly fp f []=true:=daa rfl rfl
theorem MR{j:Nat}:Ly fp f (j::p)=(On (fp.getD j []) f&&Ly fp f p):=daa rfl rfl
theorem VZ:On [] f=true:=daa rfl rfl
theorem WZ:On (x::g) f=(Hv x f&&On g f):=daa rfl rfl
theorem Q8:Hv x []=true:=daa rfl rfl
theorem R8:Hv x (y::g)=(nN x y&&Hv x g):=daa rfl rfl
theorem w7:nN 0 0=false:=daa rfl rfl
theorem A7:nN 0 (y+1)=true:=daa rfl rfl
theorem B7:nN (x+1) 0=true:=daa rfl rfl
theorem C7:nN (x+1) (y+1)=nN x y:=daa rfl rfl
theorem D8{z:Value}:Od (.v z)=none:=daa rfl rfl
theorem kV:Od (.agg r)=none:=daa rfl rfl
theorem nV:Od (.tup r)=none:=daa rfl rfl
theorem KZ:Od (.sl S r)=none:=daa rfl rfl
theorem JZ{d:D}:Od (.pt d)=none:=daa rfl rfl
theorem kR:Od .dead=none:=daa rfl rfl
theorem lV:Od (.own x y)=some x:=daa rfl rfl
theorem mV{u v:Nat}:Od (.ref x y u v)=some x:=daa rfl rfl
theorem lR{u v:Nat}:Od (.view x y u v)=some x:=daa rfl rfl
theorem V9{l:List Nat}{ps:List (List Nat)}:(l::ps).headD []=l:=daa rfl rfl
theorem tl_n{l:List Nat}{ps:List (List Nat)}:(l::ps).tail=ps:=daa rfl rfl
theorem U9:([]:List (List Nat)).headD []=[]:=daa rfl rfl
theorem tl_0:([]:List (List Nat)).tail=[]:=daa rfl rfl
end
def zy:=(And.intro (And.intro (And.intro (And.intro (And.intro (And.intro (And.intro (And.intro @W7 @Z7) (And.intro @sU @HU)) (And.intro (And.intro @iZ @pZ) (And.intro @hZ @oZ))) (And.intro (And.intro (And.intro @X7 @a8) (And.intro @mU @BU)) (And.intro (And.intro @dQ @AQ) (And.intro @jZ @qZ)))) (And.intro (And.intro (And.intro (And.intro @eQ @BQ) (And.intro @PM @aN)) (And.intro (And.intro @oU @DU) (And.intro @rQ @NQ))) (And.intro (And.intro (And.intro @rU @GU) (And.intro @qQ @MQ)) (And.intro (And.intro @fQ @CQ) (And.intro @iQ @DQ))))) (And.intro (And.intro (And.intro (And.intro (And.intro @jQ @FQ) (And.intro @cQ @zQ)) (And.intro (And.intro @kQ @GQ) (And.intro @MJ @YJ))) (And.intro (And.intro (And.intro @mZ @tZ) (And.intro @uU @JU)) (And.intro (And.intro @OM @ZM) (And.intro @NJ @ZJ)))) (And.intro (And.intro (And.intro (And.intro @QM @bN) (And.intro @nU @CU)) (And.intro (And.intro @V7 @Y7) (And.intro @kZ @rZ))) (And.intro (And.intro (And.intro @vU @KU) (And.intro @tU @IU)) (And.intro (And.intro @RM @dN) (And.intro @nQ @JQ)))))) (And.intro (And.intro (And.intro (And.intro (And.intro (And.intro @oQ @KQ) (And.intro @qU @FU)) (And.intro (And.intro @pU @EU) (And.intro @sQ @OQ))) (And.intro (And.intro (And.intro @mQ @IQ) (And.intro @OJ @aK)) (And.intro (And.intro @lZ @sZ) (And.intro @lU @AU)))) (And.intro (And.intro (And.intro (And.intro @pQ @LQ) (And.intro @lQ @HQ)) (And.intro (And.intro @jS @Y0) (And.intro @pX @iS))) (And.intro (And.intro (And.intro @xO @M7) (And.intro @l8 @G0)) (And.intro (And.intro @M0 @IZ) (And.intro @jV @W9))))) (And.intro (And.intro (And.intro (And.intro (And.intro @eY @iY) (And.intro @E2 @D2)) (And.intro (And.intro @C2 @XS) (And.intro @gY @hY))) (And.intro (And.intro (And.intro @YS @fY) (And.intro @WS @id_map)) (And.intro (And.intro @mR @lN) (And.intro @GW @MR)))) (And.intro (And.intro (And.intro (And.intro @VZ @WZ) (And.intro @Q8 @R8)) (And.intro (And.intro @w7 @A7) (And.intro @B7 @C7))) (And.intro (And.intro (And.intro @D8 @kV) (And.intro @nV @KZ)) (And.intro (And.intro @JZ @kR) (And.intro @lV @mV))))))) (And.intro (And.intro (And.intro (And.intro @lR @V9) (And.intro @tl_n @U9)) (And.intro (And.intro @tl_0 @DY) (And.intro @kT @EY))) (And.intro (And.intro (And.intro @lq_v @BY) (And.intro @r7 @q7)) (And.intro @o7 @CY))))
section
variable {P:Program} {N:Nat} {ops:Array Oper} {Q:Exit->Act->World->Prop} {K:St->Prop} {rl:List RI} {q:Nat} {ps:List (List Nat)} {pl:List (Option Nat)}
def yS(R:List (List Nat)->St->Prop) (fp:List (List Nat)) (p:List Nat) (k:Nat) (dst:Option Tmp) (i:I) (s:St):Prop:=
 Ly fp [k] p=true/\match Xk s k i with
  |some (d,e)=>R (fp++[[k]]) (({ s with m:=s.m.set k e }:St).put dst d)
  |none=>False
def kF(P:Program) (k:FuncId) (ds:List D) (ids:List Nat) (fp:List (List Nat)) (p:List Nat) (x:Nat) (f:D->Ent->Prop) (s:St):Prop:=
 (ids.elem x&&Ly fp ids p)=true/\∃d e,((∀id∈ids,id<s.m.length)/\∀m,(∀id∈ids,m[id]?=s.m[id]?)->CallT P k ds m λd' m'=>d'=d/\m'=m.set x e)/\f d e
def I8(P:Program) (R:List (List Nat)->St->Prop) (fp:List (List Nat)) (p:List Nat) (x:Nat) (k:FuncId) (dst:Option Tmp) (args:List Operand) (s:St):Prop:=
 kF P k (args.map s.ev) (Cb s args) fp p x (λd e=>R (fp++[Cb s args]) (({ s with m:=s.m.set x e }:St).put dst d)) s
def cg(P:Program):List (Option Nat)->List (List Nat)->Nat->List RI->(St->Prop)->List (List Nat)->St->Prop
 |_,_,0,l,K,_,s=>wh P l K s
 |_,_,_+1,[],_,_,_=>False
 |some k::pl,ps,q+1,.op dst none i::l,K,fp,s=>yS (cg P pl ps.tail q l K) fp (ps.headD []) k dst i s
 |none::pl,ps,q+1,.op dst none i::l,K,fp,s=>GM (cg P pl ps.tail q l K) fp (ps.headD []) dst i s
 |none::pl,ps,q+1,.op dst (some (t,b)) i::l,K,fp,s=>
  gD (s.t.getD t .dead) b (GM (cg P pl ps.tail q l K) fp (ps.headD []) dst i) ⟨s.t.set t (.v (.bool b)),s.m⟩ (vZ (cg P pl ps.tail q l K) fp (ps.headD []) dst i) ⟨s.t.set t (.v (.bool (!b))),s.m⟩ s
 |none::pl,ps,q+1,.call dst none (.func k) args::l,K,fp,s=>XN P (cg P pl ps.tail q l K) fp (ps.headD []) k dst args s
 |some x::pl,ps,q+1,.call dst none (.func k) args::l,K,fp,s=>I8 P (cg P pl ps.tail q l K) fp (ps.headD []) x k dst args s
 |_,_,_+1,_::_,_,_,_=>False
theorem Ov:∀{q:Nat}{l:List RI}{pl:List (Option Nat)}{ps:List (List Nat)}{fp:List (List Nat)}{s:St},cg P pl ps q l K fp s->Ql P pl ps fp q l K s
 |0,l,pl,ps,fp,s,h=>by simp only[cg]at h;simp only[Ql];exact Su h
 |q+1,[],pl,ps,fp,s,h=>by simp[cg]at h
 |q+1,.op dst none i::l,some k::pl,ps,fp,s,h=>by
  simp only[cg,yS]at h;obtain⟨h1,h2⟩:=h;split at h2
  .rename_i d e hf;simp only[Ql];exact⟨h1,trivial,d,e,hf,Ov h2⟩
  simp_all
 |q+1,.op dst none i::l,none::pl,ps,fp,s,h=>by
  simp only[cg,GM]at h;obtain⟨h1,h0,h2⟩:=h;simp only[Ql,gate];obtain⟨d,m',h3,h4⟩:=(Mt _ _).1 h2;exact⟨h1,d,m',h0,h3,Ov h4⟩
 |q+1,.op dst (some (t,b)) i::l,none::pl,ps,fp,⟨st,sm⟩,h=>by
  simp only[cg]at h;have h:=cD rfl h;have hrid:∀s,Jk s (.op dst (some (t,b)) i)=Jk s (.op dst none i):=λ_=>rfl;simp only[Ql];show Ly fp (Jk _ (.op dst (some (t,b)) i)) (ps.headD [])=true/\_;rw[hrid];split at h
  .simp_all
  .grind[gate]
  .rename_i c b' hg;refine⟨?_,?_⟩
   .by_cases hc:c=b'
    .exact(h.1 hc).1
    .exact(h.2 hc).1
   rw[hg];by_cases hc:c=b'
   .obtain⟨h1,h0,h2⟩:=h.1 hc;obtain⟨d,m',h3,h4⟩:=(Mt _ _).1 h2;exact⟨λ_=>⟨d,m',h0,h3,Ov h4⟩,λhn=>(hn hc).elim⟩
   .obtain⟨h1,h2⟩:=h.2 hc;exact⟨λhn=>(hc hn).elim,λ_=>Ov h2⟩
 |q+1,.call dst none (.func k) args::l,none::pl,ps,fp,s,h=>by
  simp only[cg,XN,Nt]at h;obtain⟨h0,d,h1,h2⟩:=h;simp only[Ql,gate];exact⟨h0,d,by simp_all,Ov h2⟩
 |q+1,.op dst g i::l,[],ps,fp,s,h=>by simp[cg]at h
 |q+1,.op dst (some g) i::l,some k::pl,ps,fp,s,h=>by simp[cg]at h
 |q+1,.call dst g f args::l,[],ps,fp,s,h=>by simp[cg]at h
 |q+1,.call dst none (.func k) args::l,some x::pl,ps,fp,s,h=>by
  simp only[cg,I8,kF]at h;obtain⟨h0,d,e,h1,h2⟩:=h;simp only[laa,List.elem_eq_mem,decide_eq_true_eq]at h0;obtain⟨h0,h0'⟩:=h0;simp only[Ql];exact⟨trivial,h0,h0',d,e,by simp_all,Ov h2⟩
 |q+1,.call dst (some g) f args::l,some x::pl,ps,fp,s,h=>by simp[cg]at h
 |q+1,.call dst none (.tmp _) args::l,some x::pl,ps,fp,s,h=>by simp[cg]at h
 |q+1,.call dst none (.const _) args::l,some x::pl,ps,fp,s,h=>by simp[cg]at h
 |q+1,.call dst none (.global _) args::l,some x::pl,ps,fp,s,h=>by simp[cg]at h
 |q+1,.call dst none (.meth _ _) args::l,some x::pl,ps,fp,s,h=>by simp[cg]at h
 |q+1,.call dst (some g) f args::l,none::pl,ps,fp,s,h=>by simp[cg]at h
 |q+1,.call dst none (.tmp _) args::l,none::pl,ps,fp,s,h=>by simp[cg]at h
 |q+1,.call dst none (.const _) args::l,none::pl,ps,fp,s,h=>by simp[cg]at h
 |q+1,.call dst none (.global _) args::l,none::pl,ps,fp,s,h=>by simp[cg]at h
 |q+1,.call dst none (.meth _ _) args::l,none::pl,ps,fp,s,h=>by simp[cg]at h
theorem T.ao(hm:P.follows .mixedOrders=true) {cuts:List Nat}{bs:List (List Nat)}{l:List RI}{K:Exit->St->Prop}{s:St}(ps:List (List Nat)) (pl:List (Option Nat)) (hok:Js bs l q ps pl=true) (hpl:Nn s.m pl=true) (h:cg P pl ps q l (K .normal) [] s):T P N (.any cuts q bs l) K s:=
 T.UZ hm ps pl hok hpl (Ov h)
def Hx:List (Option Nat)->List RI->Bool
 |none::pl,_::l=>Hx pl l
 |some _::pl,.call ..::l=>Hx pl l
 |[],_=>true
 |_,_=>false
theorem BD:∀{pl:List (Option Nat)}{l:List RI},Hx pl l=true->∀i p,pO pl i=some p->∃a b c d,l[i]?=some (.call a b c d)
 |[],l,_,i,p,h=>by grind[pO]
 |none::pl,[],h,_,_,_=>by grind[Hx]
 |some _::pl,[],h,_,_,_=>by grind[Hx]
 |none::pl,y::l,h,0,p,h2=>by grind[pO]
 |none::pl,y::l,h,i+1,p,h2=>by
  simp only[Hx]at h;simpa using BD h i p (by grind[pO])
 |some x::pl,.call a b c d::l,h,0,p,h2=>⟨a,b,c,d,rfl⟩
 |some x::pl,.call a b c d::l,h,i+1,p,h2=>by
  simp only[Hx]at h;simpa using BD h i p (by grind[pO])
 |some x::pl,.op a b c::l,h,_,_,_=>by grind[Hx]
theorem T.dp(hm:P.follows .mixedOrders=true) {l:List RI}{K:Exit->St->Prop}{s:St}(ps:List (List Nat)) (pl:List (Option Nat)) (hps:ps=Gv q) (hcl:Hx pl l=true) (hpl:Nn s.m pl=true) (h:cg P pl ps q l (K .normal) [] s):T P N (.draw q l) K s:=by
 subst hps;exact T.X0 hm (Gv q) pl (BD hcl) lH hpl (Ov h)
end
section
variable {P:Program} {pl:List (Option Nat)} {ps:List (List Nat)} {q k t:Nat} {b:Bool} {dst:Option Tmp} {i:I} {l:List RI} {K:St->Prop} {fp:List (List Nat)} {s:St} {st:List D} {m:List Ent} {args:List Operand} {R:List (List Nat)->St->Prop} {p:List Nat} {z:D} {S:Nat} {x:Operand}
theorem gS:cg P pl ps 0 l K fp s=wh P l K s:=by simp only[cg]
theorem nX:cg P (some k::pl) ps (q+1) (.op dst none i::l) K fp s=yS (cg P pl ps.tail q l K) fp (ps.headD []) k dst i s:=by simp only[cg]
theorem V0:cg P (none::pl) ps (q+1) (.op dst none i::l) K fp s=GM (cg P pl ps.tail q l K) fp (ps.headD []) dst i s:=by simp only[cg]
theorem oX:cg P (none::pl) ps (q+1) (.op dst (some (t,b)) i::l) K fp ⟨st,m⟩=gD (st.getD t .dead) b (GM (cg P pl ps.tail q l K) fp (ps.headD []) dst i) ⟨st.set t (.v (.bool b)),m⟩ (vZ (cg P pl ps.tail q l K) fp (ps.headD []) dst i) ⟨st.set t (.v (.bool (!b))),m⟩ ⟨st,m⟩:=by simp only[cg]
theorem dS:cg P (none::pl) ps (q+1) (.call dst none (.func k) args::l) K fp s=XN P (cg P pl ps.tail q l K) fp (ps.headD []) k dst args s:=by simp only[cg]
theorem wO{x:Nat}:cg P (some x::pl) ps (q+1) (.call dst none (.func k) args::l) K fp s=I8 P (cg P pl ps.tail q l K) fp (ps.headD []) x k dst args s:=by simp only[cg]
theorem N0{R:List (List Nat)->St->Prop}{p:List Nat}{x:Nat}:I8 P R fp p x k dst args s=kF P k (args.map s.ev) (Cb s args) fp p x (λd e=>R (fp++[Cb s args]) (({ s with m:=s.m.set x e }:St).put dst d)) s:=daa rfl rfl
theorem AX:yS R fp p k dst i s=(Ly fp [k] p=true/\match Xk s k i with|some (d,e)=>R (fp++[[k]]) (({ s with m:=s.m.set k e }:St).put dst d)|none=>False):=daa rfl rfl
theorem LO:Xk s k (.alloc S z)=(match s.m[k]? with|some (.live S' Ja [])=>if S'=S then some (.ref k (Ja+1) 0 0,.live S (Ja+1) [z])else none|_=>none):=daa rfl rfl
theorem yX:Xk s k (.box S x)=(match s.m[k]? with|some (.live S' Ja [])=>if S'=S/\(s.ev x).ok=true/\Er S (s.ev x).cells=true then some (.ref k (Ja+1) 0 0,.live S (Ja+1) [s.ev x])else none|_=>none):=by simp only[ep];rfl
theorem zX{n:Nat}{qs:List (Nat×Operand)}:Xk s k (.bslice S n z qs)=(match s.m[k]? with|some (.live S' Ja [])=>if S'=S then(Tl s S qs (gaa n z)).map λl=>(.own k (Ja+1),.live S (Ja+1) l)else none|_=>none):=daa rfl rfl
end
def zo:=(And.intro (And.intro (And.intro (And.intro @gS @nX) (And.intro @V0 @oX)) (And.intro (And.intro @dS @wO) (And.intro @N0 @AX))) (And.intro (And.intro @LO @yX) @zX))
theorem kL{G G':Gh}{w w':World}(hle:SubF G w G' w') {d d':D}(hd:∀u,VRel G w d u->VRel G' w' d' u) {post:List D}(hpost:ia post=true) :
 ∀{pre:List D} {us:List Value},ia pre=true->VsRel G w (pre++d::post) us->VsRel G' w' (pre++d'::post) us
 |[],us,_,h=>by
  simp only[Xaa,VsRel]at h⊢;obtain⟨u,r,rfl,h1,h2⟩:=h;exact⟨u,r,rfl,hd u h1,VsRel.free hle hpost h2⟩
 |p::pre,us,hp,h=>by
  simp only[ia,laa]at hp;simp only[Haa,VsRel]at h⊢;obtain⟨u,r,rfl,h1,h2⟩:=h;exact⟨u,r,rfl,VRel.free hle hp.1 h1,kL hle hd hpost hp.2 h2⟩
section
variable {P:Program}
end
variable {P:Program}
def AV(P:Program) (f:FuncId) (ds:List D) (m:List Ent) (R:D->List Ent->Prop):Prop:=
 Enters P f/\∀(G:Gh) (w:World) (vs:List Value),VsRel G w ds vs->Inv G w m->
  Calls P f vs.toArray w λe w'=>∃v d m' G',e=.returned v/\R d m'/\VRel G' w' d v/\Inv G' w' m'/\StepN 0 G w m G' w' m'
theorem PN{f:FuncId}{F:Fun}{ds:List D}{m:List Ent}{R:D->List Ent->Prop}(hF:Pt P f=some F) (hname:((P.funcs[f]?).map λfn=>fn.name == "runtime.NumGoroutine")=some false)
 (h:T P 0 F.code (Nx F.results R) ⟨ds++gaa (F.ntmps-ds.length) .dead,m⟩):AV P f ds m R:=by
 unfold Pt at hF;split at hF
 .rename_i fn hfn;split at hF
  .rename_i b r hb hres;simp only[eaa]at hF;obtain⟨c,hc,rfl⟩:=hF;refine⟨⟨fn,hfn,by simp_all,by simp_all⟩,λG w vs hv hi=>?_⟩;refine calls_of_wp hfn hb ?_;have hlen:=hv.length;have hr:Rel G w { tmps:=vs.toArray++Array.replicate (fn.ntmps-vs.toArray.size) undef,defers:=[] } ⟨ds++gaa (fn.ntmps-ds.length) .dead,m⟩:=by
    refine⟨?_,hi,rfl⟩;simp only[Array.toList_append,Array.toList_replicate,List.size_toArray,hlen];exact hv.append (YG _ _ _)
   refine Code.wp_mono ?_ (h b hc G w _ (Bab _) hr);rintro e a' w' ⟨s',G',hK,hr',hs0⟩;have fin:(∃ds,sd s' r=some ds/\R (ym ds) s'.m)->a'.defers=[]/\∃v,(results fn a'.tmps).run P w'=.ok v w'/\∃v_1 d m' G',Ending.returned v=.returned v_1/\R d m'/\VRel G' w' d v_1/\Inv G' w' m'/\StepN 0 G w m G' w' m':=by
    rintro⟨es,hes,hR⟩;obtain⟨v,hrun,hv'⟩:=BB (F:=⟨fn.ntmps,r,c⟩) hres hr' hes;exact⟨hr'.defers,v,hrun,v,_,_,G',rfl,hR,hv',hr'.inv,hs0⟩
   cases e with
   |normal=>exact fin hK
   |ret=>exact fin hK
   |_=>exact hK.elim
  simp_all
 simp_all
theorem CX{k id S Ja:Nat}{l:List D}{m:List Ent}{pre post:List D}{o:D}
 (hid:m[id]?=some (.live S Ja l)) (hpre:ia pre=true) (hpost:ia post=true) (hl:ia l=true)
 (h:AV P k (pre++.own 0 0::post) [.live S 0 l] λd m'=>Sbs [] m' [d] [o]) :
 CallT P k (pre++.own id Ja::post) m λd m'=>d=o/\m'=m.set id .gone:=by
 refine⟨h.1,λG w vs hv hi=>?_⟩;have hlen:id<m.length:=(yaa.1 hid).1;obtain⟨eV,eS,eN,eC,eB⟩:=hi.ent id _ hid;have hc0:SubF G w ⟨G.F,1,λ_=>G.B id,λ_=>0,λ_=>G.S id,λ_=>G.N id,λ_=>G.C id⟩ w:=⟨λ_ h=>h,λ_ _=>rfl⟩;have hv':=kL hc0 (d:=.own id Ja) (d':=.own 0 0) (λu hu=>by
  simp only[VRel]at hu⊢
  grind) hpost hpre hv
 have hic:Inv ⟨G.F,1,λ_=>G.B id,λ_=>0,λ_=>G.S id,λ_=>G.N id,λ_=>G.C id⟩ w [.live S 0 l]:=by
  refine⟨rfl,hi.F,?_,?_,hi.gl.bare λ_ h=>h⟩
  .intro i e he
   cases i with
   |zero=>
    simp at he;subst he;refine⟨rfl,eS,eN,eC,?_⟩;rcases eB with h|⟨b,cs,T,h1,h2,h3,h4,h5⟩
    .simp_all
    .exact .inr ⟨b,cs,T,h1,h2,h3,h4,Sa.free hc0 rfl hl h5⟩
   |succ i=>simp at he
  grind
 have own0:∀b,Qc ⟨G.F,1,λ_=>G.B id,λ_=>0,λ_=>G.S id,λ_=>G.N id,λ_=>G.C id⟩ [.live S 0 l] b->G.B id=some b:=by
  rintro b ⟨i,e,he,-,hB⟩;omega
 refine(h.2 _ w vs hv' hic).mono ?_;rintro e w' ⟨v,d,m',G',rfl,hR,hvd,hi',hs'⟩;have live1:(Ent.live S Ja l).isLive=true:=rfl;have hT:=(hR.rel hi' (λi j v h=>by grind)).1 [v] (by simp only[VsRel];simp_all);simp only[VsRel]at hT;obtain⟨u,us,he,h1,_⟩:=hT;injection he with he _;subst he;have hfree:=cE hR;simp only[ia,paa]at hfree;have hle:Le G w ⟨λb=>G'.F b\/Qc G' m' b,G.n,G.B,G.V,G.S,G.N,G.C⟩ w':=by
  refine⟨λb hb=>.inl (hs'.F b hb),λb hb=>hs'.heap b hb,oaa _,λi _=>.inl (by simp)⟩
 have olt:∀i x,m[i]?=some x->x.isLive=true->∀b,G.B i=some b->b<w.heap.size/\¬G.F b:=λi x hx hl b hb=>(hi.ent i x hx).lt hl hb;have notO:∀i x,m[i]?=some x->x.isLive=true->i≠id->∀b,G.B i=some b->G.B id≠some b:=λi x hx hlx hne b hb hB=>hne (hi.apart i id x _ hx hid hlx live1 b hb hB);have hget:∀i x,(m.set id .gone)[i]?=some x->(m[i]?=some x/\i≠id)\/(i=id/\x=.gone):=by
  grind
 refine⟨v,o,_,⟨λb=>G'.F b\/Qc G' m' b,G.n,G.B,G.V,G.S,G.N,G.C⟩,rfl,⟨rfl,rfl⟩,?_,⟨by simp[hi.n],?_,?_,?_,hi'.gl.bare λ_ h=>.inl h⟩,⟨hle,hs'.os,hs'.tape,hs'.output,hs'.size,?_,?_,?_⟩⟩
 .refine VRel.free (G:=Wb G' m' []) ⟨?_,λ_ _=>rfl⟩ hfree h1;rintro b (hb|⟨hb,_⟩)
  all_goals simp_all
 .rintro b (hb|hb)
  .exact hi'.F b hb
  .exact(Qc.lt hi' hb).1
 .intro i x hx;rcases hget i x hx with⟨h1,h2⟩|⟨rfl,rfl⟩
  .by_cases hlx:x.isLive=true
   .refine(hi.ent i x h1).mono hle (by simp) (λb hb=>?_) (λb hb _ hF=>?_)
    .exact hs'.keep b (olt i x h1 hlx b hb).1 λho=>notO i x h1 hlx h2 b hb (own0 b ho)
    .rcases hF with hF|hF
     .rcases hs'.newF b (olt i x h1 hlx b hb).1 hF with h|h
      all_goals grind
     .exact(notO i x h1 hlx h2 b hb (own0 b (hs'.newB b (olt i x h1 hlx b hb).1 hF))).elim
   .cases x with
    |gone=>trivial
    |_=>grind[Ent.isLive]
  .trivial
 .intro i j x y hx hy lx ly b hb hb';rcases hget i x hx with⟨h1,h2⟩|⟨rfl,rfl⟩
  .rcases hget j y hy with⟨h3,h4⟩|⟨rfl,rfl⟩
   .exact hi.apart i j x y h1 h3 lx ly b hb hb'
   grind
  grind
 .intro b hb hno;exact hs'.keep b hb λho=>hno ⟨id,_,hid,live1,own0 b ho⟩
 .intro b hb hF;rcases hF with hF|hF
  .rcases hs'.newF b hb hF with h|h
   .simp_all
   .exact .inr ⟨id,_,hid,live1,own0 b h⟩
  .exact .inr ⟨id,_,hid,live1,own0 b (hs'.newB b hb hF)⟩
 .rintro b hb ⟨i,x,hx,lx,hB⟩;rcases hget i x hx with⟨h1,h2⟩|⟨rfl,rfl⟩
  .exact⟨i,x,h1,lx,hB⟩
  .cases lx
def EB(P:Program) (k:Nat) (pre post:List D) (S:Nat) (l:List D) (o:D):Prop:=∀m id Ja,m[id]?=some (.live S Ja l)->CallT P k (pre++.own id Ja::post) m λd m'=>d=o/\m'=m.set id .gone
def qN(P:Program) (k:Nat) (pre post:List D) (S:Nat) (l l':List D) (o:D):Prop:=∀m id Ja,m[id]?=some (.live S Ja l)->CallT P k (pre++.own id Ja::post) m λd m'=>d=o/\m'=m.set id (.live S Ja l')
theorem EB.at{k:Nat}{F:Fun}{pre post:List D}{S:Nat}{l:List D}{o:D}(n:Nat) (hF:Pt P k=some F) (hname:((P.funcs[k]?).map λfn=>fn.name == "runtime.NumGoroutine")=some false)
 (hpre:ia pre=true) (hpost:ia post=true) (hl:ia l=true) (hn:F.ntmps=(pre++.own 0 0::post).length+n)
 (h:T P 0 F.code (uE F.results o) ⟨(pre++.own 0 0::post)++Tm.ds n [],[.live S 0 l]⟩):EB P k pre post S l o:=by
 intro m id Ja hm;refine CX hm hpre hpost hl (PN hF hname ?_);rw[hn,Sab,←pA];refine T.J0 (h.mono ?_);have key:∀(e:Exit) (s:St),(∀s',Nx F.results (λd m'=>Sbs [] m' [d] [o]) e s' = ∃ds,sd s' F.results=some ds/\Sbs [] s'.m [ym ds] [o])->(∃S,Tells 0 s S/\∃ds,sd S F.results=some ds/\Sbs [] S.m [ym ds] [o])->oL 0 (Nx F.results λd m'=>Sbs [] m' [d] [o]) e s:=by
  intro e s he ⟨S,h1,h2⟩ G w a hN hr;obtain⟨G',h3,h4⟩:=xp h1 hN hr
  grind
 intro e s hs
 cases e with
 |normal=>exact key _ s (λ_=>rfl) hs
 |ret=>exact key _ s (λ_=>rfl) hs
 |_=>exact(hs:False).elim
theorem rK{k id S Ja:Nat}{pre post l ds:List D}{o:D}{m:List Ent}{f:D->List Ent->Prop}(h:EB P k pre post S l o) (hds:ds=pre++.own id Ja::post) (hm:m[id]?=some (.live S Ja l)) (hf:f o (m.set id .gone)):lg P k ds m f:=by
 subst hds;exact Rk (h m id Ja hm) hf
theorem UR{k id S Ja:Nat}{pre post l l' ds:List D}{o:D}{m:List Ent}{f:D->List Ent->Prop}(h:qN P k pre post S l l' o) (hds:ds=pre++.own id Ja::post) (hm:m[id]?=some (.live S Ja l)) (hf:f o (m.set id (.live S Ja l'))):lg P k ds m f:=by
 subst hds;exact Rk (h m id Ja hm) hf
theorem UL{k:Nat}{vs:List Value}{v:Value}(hE:Enters P k) (h:∀w,Calls P k vs.toArray w λe w'=>e=.returned v/\w'=w):Den P k (vs.map .v) (.v v):=by
 refine λm=>⟨hE,λG w us hv hi=>?_⟩;have:∀(vs us:List Value),VsRel G w (vs.map .v) us->us=vs:=by
  intro vs
  induction vs with
  |nil=>intro us h;simpa [VsRel] using h
  |cons x l ih=>
   intro us h;simp only[Gaa,VsRel,VRel]at h
   grind
 obtain rfl:=this vs us hv;refine(h w).mono ?_;rintro e w' ⟨rfl,rfl⟩;exact⟨_,_,_,G,rfl,⟨rfl,rfl⟩,by simp[VRel],hi,Step.refl _ _ _⟩
open Go.Sort
variable {P:Program}
def eI(n:Int):D:=.v (.int .i64 n)
theorem WD{G:Gh}{w:World}{b:Nat}:∀{zs:List Int}{off:Nat},Sa G w b 1 (zs.map eI) off->∀j (h:j<zs.length),w.cell? ⟨b,off+j,none⟩=some (.int .i64 zs[j])
 |[],_,_,j,h=>absurd h (sad j)
 |z::zs,off,hr,j,h=>by
  simp only[Gaa,Sa]at hr;obtain⟨⟨u,h1,h2,h3⟩,h4⟩:=hr;simp only[eI,VRel]at h1;subst h1
  cases j with
  |zero=>exact(h3 0 (.int .i64 z) rfl).2
  |succ j=>
   have:=WD h4 j (by simp_all)
   grind
theorem UJ{G:Gh}{w:World}{b:Nat}:∀{zs:List Int}{off:Nat},(∀j (h:j<zs.length),w.cell? ⟨b,off+j,none⟩=some (.int .i64 zs[j]))->Sa G w b 1 (zs.map eI) off
 |[],_,_=>by simp[Sa]
 |z::zs,off,hr=>by
  simp only[Gaa,Sa];refine⟨⟨.int .i64 z,by simp[eI,VRel],rfl,?_⟩,UJ λj h=>?_⟩
  .intro j c hc
   cases j with
   |zero=>
    have:c=.int .i64 z:=by grind[Value.cells]
    subst this;exact⟨rfl,hr 0 (kad _)⟩
   |succ j=>grind[Value.cells]
  .have:=hr (j+1) (by simp_all)
   grind
theorem holds_of{w:World}{b off:Nat}{cs:Array Value}{T:TypeId}{zs:List Int}(hb:w.heap[b]?=some (.cells cs T (0,0))) (h:∀j (h:j<zs.length),w.cell? ⟨b,off+j,none⟩=some (.int .i64 zs[j])):Holds (Value.int .i64) w b off zs.toArray:=by
 intro j hj
 grind[World.frozen?]
theorem XK{w:World}{b off:Nat}{cs:Array Value}{T:TypeId}{ys:List Int}{n:Nat}{os:Array Obj}(hb:w.heap[b]?=some (.cells cs T (0,0))) (hlen:off+ys.length<=cs.size) {w':World}(hw:w'=grow (putRow (Value.int .i64) (Sort.ahead w n) b off ys.toArray) os) :
 w'.os=w.os/\w'.tape=w.tape/\w'.output=w.output/\w.heap.size<=w'.heap.size/\(∀k,k<w.heap.size->k≠b->w'.heap[k]?=w.heap[k]?)/\
  w'.heap[b]?=some (.cells (putCells (Value.int .i64) off ys.toArray cs) T (0,0))/\∀j (h:j<ys.length),w'.cell? ⟨b,off+j,none⟩=some (.int .i64 ys[j]):=by
 subst hw;have hbs:b<w.heap.size:=by
  grind
 have hheap:(grow (putRow (Value.int .i64) (Sort.ahead w n) b off ys.toArray) os).heap=w.heap.modify b (onCells (putCells (Value.int .i64) off ys.toArray))++os:=rfl;have hbb:(grow (putRow (Value.int .i64) (Sort.ahead w n) b off ys.toArray) os).heap[b]?=some (.cells (putCells (Value.int .i64) off ys.toArray cs) T (0,0)):=by
  rw[hheap,Array.getElem?_append_left (by simp_all),Array.getElem?_modify,if_pos rfl,hb];rfl
 refine⟨rfl,rfl,rfl,?_,?_,hbb,?_⟩
 all_goals grind[World.cell?,putCells]
theorem XI{k:FuncId}(hE:Enters P k) {id Ja:Nat}{m:List Ent}{zs ys:List Int}(hm:m[id]?=some (.live 1 Ja (zs.map eI))) (hlen:ys.length=zs.length)
 (h1:∀w b off cap,Holds (Value.int .i64) w b off zs.toArray->b<w.heap.size->Calls P k #[.slice (some ⟨b,off,none⟩) zs.length cap] w λe w'=>e=.returned (.tuple #[])/\∃n os,w'=grow (putRow (Value.int .i64) (Sort.ahead w n) b off ys.toArray) os)
 (h0:∀w cap,Calls P k #[.slice none 0 cap] w λe w'=>e=.returned (.tuple #[])/\w'=w) :
 CallT P k [.own id Ja] m λd m'=>d=.tup []/\m'=m.set id (.live 1 Ja (ys.map eI)):=by
 refine⟨hE,λG w vs hv hi=>?_⟩;obtain⟨eV,eS,eN,eC,eB⟩:=hi.ent id _ hm;simp only[VsRel,VRel]at hv;obtain⟨u,r,rfl,⟨a,n,c,rfl,g1,g2,g3⟩,rfl⟩:=hv;obtain⟨rfl,rfl,rfl⟩:=g3 eV;simp only[nab]at eN eC;rcases eB with⟨hB,hC⟩|⟨b,cs,T,hB,hF,hb,hc,hr⟩
 .have h00:=congrArg cad hC;dsimp only at h00;have hz:zs=[]:=zaa (by omega);have hy:ys=[]:=zaa (by omega);subst hz hy;rw[hB,eN];refine(h0 w _).mono ?_;rintro e w' ⟨rfl,rfl⟩;refine⟨_,_,_,G,rfl,⟨rfl,rfl⟩,by simp[VRel,VsRel],?_,?_⟩
  .have:m.set id (.live 1 Ja (([]:List Int).map eI))=m:=by
    apply zab
    grind
   simp_all
  .have:m.set id (.live 1 Ja (([]:List Int).map eI))=m:=by
    apply zab
    grind
   grind[Step.refl]
 .rw[hB,eN];have hbs:b<w.heap.size:=by
   grind
  refine(h1 w b _ _ (holds_of hb (WD hr)) hbs).mono ?_;rintro e w' ⟨rfl,n,os,hw⟩;obtain⟨p1,p2,p3,p4,p5,p6,p7⟩:=XK hb (by omega) hw;have hg:=Ye (w':=w') hi hm rfl (e':=.live 1 Ja (ys.map eI)) rfl (G.B id) Ja (G.N id) (G.C id) (.inr ⟨eV.symm,rfl,rfl,rfl⟩) p1 p2 p3 p4
   (λk hk hne=>p5 k hk (λh=>hne (by rw[hB,h]))) (λk hk=>.inl hk) (by
    refine⟨by simp[Gh.He],by grind[Gh.He],by grind[Gh.He],by grind[Gh.He],.inr ⟨b,_,T,by grind[Gh.He],hF,p6,?_,UJ (by grind[Gh.He])⟩⟩
    grind[Gh.He,putCells])
  exact⟨_,_,_,_,rfl,⟨rfl,rfl⟩,by simp[VRel,VsRel],hg.1,hg.2⟩
theorem WI{k:FuncId}(hE:Enters P k) {id Ja:Nat}{m:List Ent}{zs ys:List Int}(hm:m[id]?=some (.live 1 Ja (zs.map eI))) (hlen:ys.length<=zs.length)
 (h1:∀w b off cap,Holds (Value.int .i64) w b off zs.toArray->zs.length<=cap->Calls P k #[.slice (some ⟨b,off,none⟩) zs.length cap] w λe w'=>e=.returned (.slice (some ⟨b,off,none⟩) ys.length cap)/\∃n xs,xs.length+ys.length=zs.length/\w'=grow (putRow (Value.int .i64) (Sort.ahead w n) b off (ys++xs).toArray) #[])
 (h0:∀w cap,Calls P k #[.slice none 0 cap] w λe w'=>e=.returned (.slice none 0 cap)/\w'=w) :
 CallT P k [.own id Ja] m λd m'=>d=.own id (Ja+1)/\m'=m.set id (.live 1 (Ja+1) (ys.map eI)):=by
 refine⟨hE,λG w vs hv hi=>?_⟩;obtain⟨eV,eS,eN,eC,eB⟩:=hi.ent id _ hm;simp only[VsRel,VRel]at hv;obtain⟨u,r,rfl,⟨a,n,c,rfl,g1,g2,g3⟩,rfl⟩:=hv;obtain⟨rfl,rfl,rfl⟩:=g3 eV;simp only[nab]at eN eC;rcases eB with⟨hB,hC⟩|⟨b,cs,T,hB,hF,hb,hc,hr⟩
 .have h00:=congrArg cad hC;dsimp only at h00;have hz:zs=[]:=zaa (by omega);have hy:ys=[]:=zaa (by omega);subst hz hy;rw[hB,eN];refine(h0 w _).mono ?_;rintro e w' ⟨rfl,rfl⟩;have hg:=Ye (w':=w') hi hm rfl (e':=.live 1 (Ja+1) (([]:List Int).map eI)) rfl none (Ja+1) 0 (G.C id) (.inl (by omega)) rfl rfl rfl (oaa _)
   (λk hk hne=>rfl) (λk hk=>by grind) (by
    refine⟨by simp[Gh.He],by grind[Gh.He],by simp[Gh.He],by simp,.inl ⟨by simp[Gh.He],by grind[Gh.He]⟩⟩)
  refine⟨_,_,_,_,rfl,⟨rfl,rfl⟩,?_,hg.1,hg.2⟩;simp only[VRel];exact⟨_,_,_,rfl,g1,by simp[Gh.He],λ_=>by simp[Gh.He]⟩
 .rw[hB,eN];refine(h1 w b _ _ (holds_of hb (WD hr)) eC).mono ?_;rintro e w' ⟨rfl,n,xs,hx,hw⟩;obtain⟨p1,p2,p3,p4,p5,p6,p7⟩:=XK hb (by grind) hw;have hg:=Ye (w':=w') hi hm rfl (e':=.live 1 (Ja+1) (ys.map eI)) rfl (G.B id) (Ja+1) ys.length (G.C id) (.inl (by omega)) p1 p2 p3 p4
   (λk hk hne=>p5 k hk (λh=>hne (by rw[hB,h]))) (λk hk=>.inl hk) (by
    refine⟨by simp[Gh.He],by grind[Gh.He],by simp[Gh.He],by grind[Gh.He],.inr ⟨b,_,T,by grind[Gh.He],hF,p6,?_,UJ λj h=>?_⟩⟩
    all_goals grind[Gh.He,putCells])
  refine⟨_,_,_,_,rfl,⟨rfl,rfl⟩,?_,hg.1,hg.2⟩;simp only[VRel];exact⟨_,_,_,rfl,g1,by simp[Gh.He],λ_=>by grind[Gh.He]⟩
theorem tO{k:FuncId}(hE:Enters P k) {zs ys:List Int}(hlen:ys.length=zs.length)
 (h1:∀w b off cap,Holds (Value.int .i64) w b off zs.toArray->b<w.heap.size->Calls P k #[.slice (some ⟨b,off,none⟩) zs.length cap] w λe w'=>e=.returned (.tuple #[])/\∃n os,w'=grow (putRow (Value.int .i64) (Sort.ahead w n) b off ys.toArray) os)
 (h0:∀w cap,Calls P k #[.slice none 0 cap] w λe w'=>e=.returned (.tuple #[])/\w'=w):qN P k [] [] 1 (zs.map eI) (ys.map eI) (.tup []):=
 λm id Ja hm=>XI hE hm hlen h1 h0
variable {P:Program} {N:Nat}
theorem VsRel.swap{G:Gh}{w:World}{l:List D}{us:List Value}{i:Nat}{d:D}{u:Value}(h:VsRel G w l us) (hu:us.getD i undef=u) (hi:i<l.length) (hd:VRel G w d u):VsRel G w (l.set i d) us:=by
 have:=h.set hd i;have hlen:=h.length;have he:us.set i u=us:=by
  apply zab
  grind
 simp_all
theorem T.Gr{i j d S:Nat}{l:List D}{neg:Bool}{s:St}{K:Exit->St->Prop}(hs:s.t[i]?=some (.sl S l)) (hl:ia l=true) (hj:j<s.t.length) (hij:i≠j) (hjd:j≠d) (hid:i≠d)
 (h:∀b,(l≠[]->b=neg)->K .normal ⟨(s.t.set j (.sl S l)).set d (.v (.bool b)),s.m⟩) :
 T P N (.oN [.op (some j) none (.mv (.tmp i)),.op (some d) none (.Gr neg (.tmp j))]) K s:=by
 intro code hc G w a hN hr;have hi:i<s.t.length:=(yaa.1 hs).1;obtain⟨u,hu,hv⟩:=hr.t.getElem hs;have hv':=hv;simp only[VRel]at hv';obtain⟨p,n,c,rfl,hn,hnc,hp⟩:=hv';have hgu:a.tmps.toList.getD i undef=.slice p n c:=by simp_all
 have hr1:Rel G w a ⟨s.t.set i (.v (.slice p n c)),s.m⟩:=⟨hr.t.swap hgu hi (by simp[VRel]),hr.inv,hr.defers⟩;have hT:T P N (.oN [.op (some j) none (.mv (.tmp i)),.op (some d) none (.Gr neg (.tmp j))]) (λe s'=>e=.normal/\s'=⟨((s.t.set i (.v (.slice p n c))).set j (.v (.slice p n c))).set d (.v (.bool (p.isNone !=neg))),s.m⟩) ⟨s.t.set i (.v (.slice p n c)),s.m⟩:=by
  refine T.oN ?_;have e1:((s.t.set i (.v (.slice p n c))).getD i .dead)=.v (.slice p n c):=by simp_all
  have e2:((s.t.set i (.v (.slice p n c))).set j (.v (.slice p n c))).getD j .dead=.v (.slice p n c):=by
   simp_all
  simp only[Qk,gate,la,St.ev,e1,e2,St.put,Maa,xaa,exists_and_left,exists_eq_left',and_assoc,true_and]
 refine Code.wp_mono ?_ (hT code hc G w a hN hr1);rintro e a' w' ⟨s',G',⟨rfl,rfl⟩,h2,h3⟩;have hsl:VRel G' w' (.sl S l) (.slice p n c):=VRel.free ⟨h3.F,h3.heap⟩ (by grind[na]) hv;refine⟨⟨(s.t.set j (.sl S l)).set d (.v (.bool (p.isNone !=neg))),s.m⟩,G',h _ ?_,⟨?_,h2.inv,h2.defers⟩,h3⟩
 .intro hne;rcases hp with hp|⟨b,off,rfl,-⟩
  all_goals simp_all
 .have h2t:=h2.t;have g:∀k,(((s.t.set i (.v (.slice p n c))).set j (.v (.slice p n c))).set d (.v (.bool (p.isNone !=neg))))[k]?=some (.v (.slice p n c))->a'.tmps.toList.getD k undef=.slice p n c:=by
   intro k hk;obtain⟨u,h1,h2⟩:=h2t.getElem hk;simp only[VRel]at h2
   simp_all
  have gi:=g i (by grind);have gj:=g j (by grind);have k1:=h2t.swap gi (by simp_all) hsl;have k2:=k1.swap gj (by simp_all) hsl;have:((((s.t.set i (.v (.slice p n c))).set j (.v (.slice p n c))).set d (.v (.bool (p.isNone !=neg)))).set i (.sl S l)).set j (.sl S l)=(s.t.set j (.sl S l)).set d (.v (.bool (p.isNone !=neg))):=by
   apply zab
   grind
  simp_all
theorem VU{ρ:Jo}{m:List Ent}{n:Nat}{d:D}(h:na d=true):Sq ρ m (n+1) d d:=by
 cases d with
 |v x=>exact rfl
 |agg a=>exact .inl ⟨rfl,by grind[na]⟩
 |tup a=>exact .inl ⟨rfl,by grind[na]⟩
 |sl S a=>exact⟨rfl,.inl ⟨rfl,by grind[na]⟩⟩
 |pt d=>exact .inl ⟨rfl,by grind[na]⟩
 |fn f a c=>
  simp only[na,laa]at h;exact⟨rfl,.inl ⟨rfl,h.1⟩,.inl ⟨rfl,h.2⟩⟩
 |dead=>exact trivial
 |ifc t d=>exact⟨rfl,.inl ⟨rfl,by grind[na]⟩⟩
 |own=>grind[na]
 |ref=>grind[na]
 |view=>grind[na]
 |mp=>grind[na]
def ZW(E:List (Nat×List Nat)) (P:Program) (ops:Array Oper) (o:Oper) (op:Op):Option I:=
 match op with
 |.binOp b t x y _=>
  match E.lookup t with
  |some ks=>some (.ceq (decide (b=.neq)) ks x y)
  |none=>lr P ops o op
 |_=>lr P ops o op
def WR(E:List (Nat×List Nat)) (P:Program) (ops:Array Oper) (o:Oper):Option RI:=
 match guardOf ops o.guard with
 |none=>none
 |some g=>
  match ZF P o.op with
  |some (f,args)=>some (.call o.dst g f args)
  |none=>(ZW E P ops o o.op).map λi=>.op o.dst g i
def EC(E:List (Nat×List Nat)) (P:Program) (ops:Array Oper):List Oper->Option (List RI)
 |[]=>some []
 |o::l=>
  match WR E P ops o,EC E P ops l with
  |some r,some rs=>some (r::rs)
  |_,_=>none
def yx(E:List (Nat×List Nat)) (P:Program):Code->Option C
 |.skip=>some .skip
 |.region _ ops false=>(EC E P ops ops.toList).map .oN
 |.region _ ops true=>
  match EC E P ops ops.toList with
  |some rl=>
   if JC (Gb ops) rl (xR (Gb ops) rl.length)=true then some (.draw (xR (Gb ops) rl.length) rl)
   else some (.any (fJ (Gb ops) rl.length (xR (Gb ops) rl.length)) (xR (Gb ops) rl.length) (Gb ops) rl)
  |none=>none
 |.seq a b=>
  match yx E P a,yx E P b with
  |some x,some y=>some (.seq x y)
  |_,_=>none
 |.cond c a b=>
  match yx E P a,yx E P b with
  |some x,some y=>some (.cond c x y)
  |_,_=>none
 |.block id a=>(yx E P a).map (.block id)
 |.loop a=>(yx E P a).map .loop
 |.exit id=>some (.exit id)
 |.ret=>some .ret
 |.label _=>some .skip
 |.rangeFunc ..=>some .stuck
 |_=>none
def YW(E:List (Nat×List Nat)) (P:Program) (f:FuncId):Option Fun:=
 match P.funcs[f]? with
 |some fn=>
  match fn.body,Au P fn.results.toList with
  |some b,some r=>(yx E P b).map λc=>⟨fn.ntmps,r,c⟩
  |_,_=>none
 |none=>none
theorem u8l{n:Nat}{h:n<2 ^ 8}:(⟨⟨⟨n,h⟩⟩⟩:UInt8)=UInt8.ofNat n:=by
 apply UInt8.toBitVec_inj.1;simp only[BitVec.ofFin_eq_ofNat];rfl
theorem arl{l:List UInt8}:(⟨l⟩:Array UInt8)=l.toArray:=rfl
structure Kf (P:Program) (n:Nat) where
 F:Fun
 ok:Pt P n=some F
 nm:((P.funcs[n]?).map λfn=>fn.name == "runtime.NumGoroutine")=some false
theorem Kf.o{P:Program}{n:Nat}(K:Kf P n):Pt P n=some K.F/\((P.funcs[n]?).map λfn=>fn.name == "runtime.NumGoroutine")=some false:=⟨K.ok,K.nm⟩
abbrev Kf.of(E:List (Nat×List Nat)) {P:Program}{n:Nat}{F:Fun}(_:YW E P n=some F:=by conv=>lhs;reduce;try simp only[Int.reduceOfNat,Int.reduceNegSucc,u8l,arl,UInt8.reduceOfNat]) (ok:Pt P n=some F:=by kernel_rfl) (nm:((P.funcs[n]?).map λfn=>fn.name == "runtime.NumGoroutine")=some false:=by kernel_rfl):Kf P n:=⟨F,ok,nm⟩
theorem ss:type_of% @T.Dy:=@T.Dy
theorem rg:type_of% @T.rg:=@T.rg
theorem sr:type_of% @T.sr:=@T.sr
theorem cd:type_of% @T.cd:=@T.cd
theorem bk:type_of% @T.bk:=@T.bk
theorem sk:type_of% @T.skip:=@T.skip
theorem xt:type_of% @T.exit:=@T.exit
theorem ay:type_of% @T.ay:=@T.ay
theorem dy:type_of% @T.dy:=@T.dy
theorem ao:type_of% @T.ao:=@T.ao
theorem tl:type_of% @T.lE:=@T.lE
theorem cq:type_of% @cG:=@cG
theorem lq:type_of% @YF:=@YF
theorem bs:type_of% @zm:=@zm
theorem lc:type_of% @T.rP:=@T.rP
theorem tj:type_of% @T.join:=@T.join
theorem lv:type_of% @zC:=@zC
theorem cv:type_of% @BC:=@BC
section
variable {P:Program} {N:Nat}
theorem jn{X:Type}{a b:C}{K:Exit->St->Prop}{s:St} [StbC N K] (S:X->St) {o:Option X}{β:Type}{f:X->Option β}{r:β}(h:o.bind f=some r) (ha:∀z,o=some z->Tm.T P N a (KJ N K S (.inl z:X⊕Unit)) s) (hb:∀z,o=some z->f z=some r->Tm.T P N b K (S z)):Tm.T P N (.seq a b) K s:=by
 obtain⟨z,h1,h2⟩:=zm h;refine T.join (R:=Unit) S (.inl z) (ha z h1) ?_;rintro _ ⟨⟩;exact hb z h1 h2
theorem gi{p q Y N:Prop} [Decidable q] {α:Type}{A B:Option α}{r:α}(h:(if q then A else B)=some r) (h1:q->A=some r->Y) (h2:¬q->B=some r->N) (hpq:p=q:=by rfl):gP p Y N:=gP.ite h (iff_of_eq hpq) h1 h2
theorem rt:type_of% @T.ret:=@T.ret
theorem er:type_of% @vn:=@vn
end
theorem eT{α:Type} [BEq α] [LawfulBEq α] {a b:α}(h:a=b):(a==b)=true:=beq_iff_eq.2 h
theorem eF{α:Type} [BEq α] [LawfulBEq α] {a b:α}(h:¬a=b):(a==b)=false:=beq_eq_false_iff_ne.2 h
theorem eD{α:Type} [BEq α] [LawfulBEq α] {a b:α}(h:¬ ¬a=b):(a==b)=true:=beq_iff_eq.2 (vaa.1 h)
theorem nT{α:Type} [BEq α] [LawfulBEq α] {a b:α}(h:¬a=b):(a !=b)=true:=bne_iff_ne.2 h
theorem nF{α:Type} [BEq α] [LawfulBEq α] {a b:α}(h:a=b):(a !=b)=false:=by simpa using h
theorem nD{α:Type} [BEq α] [LawfulBEq α] {a b:α}(h:¬ ¬a=b):(a !=b)=false:=nF (vaa.1 h)
theorem bI{α β:Type}{l:List α}{i:Int}{g:α->Option β}{r:β}(h:(idx l i).bind g=some r):∃x,0<=i/\l[i.toNat]?=some x/\g x=some r:=by
 obtain⟨x,h1,h2⟩:=zm h;obtain⟨h3,h4⟩:=F2 h1;exact⟨x,h3,h4,h2⟩
theorem bO{α β:Type}{l:List α}{i:Int}{g:α->Option β}{r:β}(h:(idx l i).bind g=some r):∃x,0<=i/\l[i.toNat]?=some x/\i.toNat<l.length/\g x=some r:=by
 obtain⟨x,h1,h2⟩:=zm h;obtain⟨h3,h4,h5⟩:=J2 h1;exact⟨x,h3,h4,h5,h2⟩
section
variable {P:Program} {N:Nat}
theorem jm{X:Type}{a b:C}{K:Exit->St->Prop}{s:St} [StbC N K] {o:Option X}{β:Type}{f:X->Option β}{r:β}(h:o.bind f=some r) (S:X->St) (ha:∀z,o=some z->Tm.T P N a (KJ N K S (.inl z:X⊕Unit)) s) (hb:∀z,o=some z->f z=some r->Tm.T P N b K (S z)):Tm.T P N (.seq a b) K s:=jn S h ha hb
theorem lm{σ β ρ:Type}{id:Nat}{K:Exit->St->Prop} [hst:StbC N K] {x:C}{s:St}{step:σ->Option (Ex σ β ρ)}{x0:σ}{y:β⊕ρ}(hy:Tm.fa step x0=some y) (S:σ->St) (B:β->St) (hs:Tells N s (S x0))
 (round:∀a z,step a=some z->(∀v,z=.ret v->y=.inr v)->Tm.T P N x (KL N id K S B z) (S a))
 (rest:∀b,y=.inl b->K .normal (B b)):Tm.T P N (.block id (.loop x)) K s:=T.rP S B step x0 hy hs round rest
end
abbrev ok(i:Nat):Option Nat×Nat×Nat:=(some i,0,0)
abbrev ov(i v:Nat):Option Nat×Nat×Nat:=(some i,v,0)
abbrev on(S:Nat):Option Nat×Nat×Nat:=(none,S,0)
theorem tq{N:Nat}(ρ:Jo) {s S:St}(h:WA (Sq ρ s.m 9) s.t S.t/\VA ρ s.m ρ S.m) (hk:Zv ρ N=true:=by rfl) (h3:(ρ.filterMap (·.1)).Nodup:=by decide):Tells N s S:=Tells.q ρ hk h3 h
theorem fq:type_of% @wF:=@wF
theorem zr:type_of% (And.intro (And.intro @Yl @Sr) (And.intro @Tr @rp)):=And.intro (And.intro @Yl @Sr) (And.intro @Tr @rp)
class FrL (l:List D):Prop where
 h:ia l=true
instance:FrL []:=⟨rfl⟩
instance {α:Type}{e:α->D} [Fr e] {x:α}{l:List D} [FrL l]:FrL (e x::l):=⟨iB FrL.h⟩
theorem dk{P:Program}{k:Nat}{l:List D}{o:D}(n:Nat) (K:Kf P k) (h:T P 0 K.F.code (uE K.F.results o) ⟨l++Tm.ds n [],[]⟩) (hf:ia l=true:=by exact FrL.h) (hn:K.F.ntmps=l.length+n:=by rfl):Den P k l o:=Den.at n K.ok K.nm hf hn h
variable {P:Program}
def qL(P:Program) (k:Nat) (ds:List D) (S:Nat) (l:List D):Prop:=∀m,CallT P k ds m λd m'=>d=.own m.length 0/\m'=m++[.live S 0 l]
theorem DX{k S:Nat}{l ds:List D}(hds:ia ds=true) (hl:ia l=true) (h:CallT P k ds [] λd m'=>d=.own 0 0/\m'=[.live S 0 l]):qL P k ds S l:=by
 refine λm=>⟨h.1,λG w vs hv hi=>?_⟩;have h0:=h.2 (Gh.bare G.F) w vs (VsRel.free (G:=G) (G':=Gh.bare G.F) ⟨λ_ h=>h,λ_ _=>rfl⟩ hds hv) (vz hi.F (hi.gl.bare λ_ h=>h));refine h0.mono ?_;rintro e w' ⟨v,d,m',G',rfl,⟨rfl,rfl⟩,hvd,hi',hs⟩;obtain⟨fV,fS,fN,fC,fB⟩:=hi'.ent 0 _ rfl;have hGn:=hi.n;have noO:∀b,¬Qc (Gh.bare G.F) [] b:=λb=>Mw;have owned0:∀b,G'.B 0=some b->Qc G' [.live S 0 l] b:=λb hb=>⟨0,_,rfl,rfl,hb⟩;have newb:∀b,G'.B 0=some b->w.heap.size<=b:=λb hb=>by
  rcases Oab b w.heap.size with h|h
  .exact(noO b (hs.newB b h (owned0 b hb))).elim
  omega
 have hF:∀b,b<w.heap.size->G'.F b->G.F b:=λb hb hf=>by
  rcases hs.newF b hb hf with h|h
  .exact h
  simp_all
 have hsub:SubF G' w' ⟨G'.F,G.n+1,λi=>if i=G.n then G'.B 0 else G.B i,λi=>if i=G.n then 0 else G.V i,λi=>if i=G.n then G'.S 0 else G.S i,λi=>if i=G.n then G'.N 0 else G.N i,λi=>if i=G.n then G'.C 0 else G.C i⟩ w':=⟨λ_ h=>h,λ_ _=>rfl⟩;have hle:Le G w ⟨G'.F,G.n+1,λi=>if i=G.n then G'.B 0 else G.B i,λi=>if i=G.n then 0 else G.V i,λi=>if i=G.n then G'.S 0 else G.S i,λi=>if i=G.n then G'.N 0 else G.N i,λi=>if i=G.n then G'.C 0 else G.C i⟩ w':=by
  refine⟨λb hb=>hs.le.F b hb,λb hb=>hs.le.heap b hb,by simp,λi hi=>.inl ?_⟩
  grind
 have hget:∀i x,(m++[.live S 0 l])[i]?=some x->(m[i]?=some x/\i≠G.n)\/(i=G.n/\x=.live S 0 l):=by
  grind
 have olt:∀i x,m[i]?=some x->x.isLive=true->∀b,G.B i=some b->b<w.heap.size/\¬G.F b:=λi x hx hl b hb=>(hi.ent i x hx).lt hl hb;refine⟨v,_,_,⟨G'.F,G.n+1,λi=>if i=G.n then G'.B 0 else G.B i,λi=>if i=G.n then 0 else G.V i,λi=>if i=G.n then G'.S 0 else G.S i,λi=>if i=G.n then G'.N 0 else G.N i,λi=>if i=G.n then G'.C 0 else G.C i⟩,rfl,⟨rfl,rfl⟩,?_,⟨by simp_all,hi'.F,?_,?_,hi'.gl.bare λ_ h=>h⟩,⟨hle,hs.os,hs.tape,hs.output,hs.size,?_,?_,?_⟩⟩
 .simp only[VRel]at hvd⊢
  grind
 .intro i x hx;rcases hget i x hx with⟨h1,h2⟩|⟨rfl,rfl⟩
  .by_cases hlx:x.isLive=true
   .refine(hi.ent i x h1).mono hle (by grind) (λb hb=>?_) (λb hb _ hf=>?_)
    .exact hs.keep b (olt i x h1 hlx b hb).1 (noO b)
    grind
   .cases x with
    |gone=>trivial
    |_=>grind[Ent.isLive]
  .refine⟨by simp,by simp_all,by simp_all,by simp_all,?_⟩;rcases fB with h|⟨b,cs,T,h1,h2,h3,h4,h5⟩
   .simp_all
   .exact .inr ⟨b,cs,T,by simp_all,h2,h3,by simp_all,by simpa using Sa.free hsub rfl hl h5⟩
 .intro i j x y hx hy lx ly b hb hb';rcases hget i x hx with⟨h1,h2⟩|⟨rfl,rfl⟩<;>rcases hget j y hy with⟨h3,h4⟩|⟨rfl,rfl⟩
  .exact hi.apart i j x y h1 h3 lx ly b (by simp_all) (by simp_all)
  all_goals grind
 .intro b hb hno;exact hs.keep b hb (noO b)
 .simp_all
 .rintro b hb ⟨i,x,hx,lx,hB⟩;rcases hget i x hx with⟨h1,h2⟩|⟨rfl,rfl⟩
  .exact⟨i,x,h1,lx,by simp_all⟩
  grind
theorem qL.den{k S:Nat}{l ds:List D}(hds:ia ds=true) (hl:ia l=true) (h:qL P k ds S l):Den P k ds (.sl S l):=by
 refine rH hds ((h []).mono ?_);rintro d m' ⟨rfl,rfl⟩;exact .Cd (by simp) rfl (Sbs.free hl) .nil
theorem sH{k:Nat}{ds:List D}{R:D->List Ent->Prop}{d2:D}{m2:List Ent}(h:CallT P k ds [] R) (ht:∀d m',R d m'->Tells 0 ⟨[d],m'⟩ ⟨[d2],m2⟩):CallT P k ds [] λd m'=>d=d2/\m'=m2:=by
 refine⟨h.1,λG w vs hv hi=>(h.2 G w vs hv hi).mono ?_⟩;rintro e w' ⟨v,d,m',G',rfl,hR,hvd,hi',hs⟩;have hr:Rel G' w' { tmps:=#[v],defers:=[] } ⟨[d],m'⟩:=⟨by simp only[VsRel];simp_all,hi',rfl⟩;obtain⟨G'',h3,h4⟩:=xp (ht d m' hR) (Bab _) hr;have hT:=h3.t;simp only[VsRel]at hT;obtain⟨u,us,he,h1,_⟩:=hT;injection he with he _;subst he;have h5:=(hs.kW (Bab _)).trans h4;have h0:0=G.n:=by rw[hi.n];rfl
 rw[h0]at h5;exact⟨_,d2,m2,G'',rfl,⟨rfl,rfl⟩,h1,h3.inv,h5.toStep⟩
def oW(rs:List RV) (S:Nat) (l:List D) (e:Exit) (s:St):Prop:=
 match e with
 |.normal=>∃S',Tells 0 s S'/\∃ds,sd S' rs=some ds/\Tells 0 ⟨[ym ds],S'.m⟩ ⟨[.own 0 0],[.live S 0 l]⟩
 |.ret=>∃S',Tells 0 s S'/\∃ds,sd S' rs=some ds/\Tells 0 ⟨[ym ds],S'.m⟩ ⟨[.own 0 0],[.live S 0 l]⟩
 |_=>False
def vX(r:Option (List D)) (m:List Ent) (S:Nat) (l:List D):Prop:=∃ds,r=some ds/\Tells 0 ⟨[ym ds],m⟩ ⟨[.own 0 0],[.live S 0 l]⟩
theorem OZ{rs:List RV}{S:Nat}{l:List D}{s:St}(h:vX (sd s rs) s.m S l):oW rs S l .ret s:=by
 obtain⟨ds,h1,h2⟩:=h;exact⟨s,.refl s,ds,h1,h2⟩
theorem QZ{ds:List D}{m:List Ent}{S:Nat}{l:List D}:vX (some ds) m S l=Tells 0 ⟨[ym ds],m⟩ ⟨[.own 0 0],[.live S 0 l]⟩:=by simp[vX]
instance {rs:List RV}{S:Nat}{l:List D}:StbC 0 (oW rs S l):=⟨by
 rintro s S' h ⟨S1,h1,h2⟩;exact⟨S1,h.trans h1,h2⟩⟩
theorem qL.at{k S:Nat}{F:Fun}{ds l:List D}(n:Nat) (hF:Pt P k=some F) (hname:((P.funcs[k]?).map λfn=>fn.name == "runtime.NumGoroutine")=some false)
 (hds:ia ds=true) (hl:ia l=true) (hn:F.ntmps=ds.length+n) (h:T P 0 F.code (oW F.results S l) ⟨ds++Tm.ds n [],[]⟩):qL P k ds S l:=by
 refine DX hds hl (sH (R:=λd m'=>Tells 0 ⟨[d],m'⟩ ⟨[.own 0 0],[.live S 0 l]⟩) (Sy hF hname ?_) λ_ _ h=>h);rw[hn,Sab,←pA];refine T.J0 (h.mono ?_);have key:∀(e:Exit) (s:St),(∀s',Nx F.results (λd m'=>Tells 0 ⟨[d],m'⟩ ⟨[.own 0 0],[.live S 0 l]⟩) e s' = ∃ds,sd s' F.results=some ds/\Tells 0 ⟨[ym ds],s'.m⟩ ⟨[.own 0 0],[.live S 0 l]⟩)->(∃S',Tells 0 s S'/\∃ds,sd S' F.results=some ds/\Tells 0 ⟨[ym ds],S'.m⟩ ⟨[.own 0 0],[.live S 0 l]⟩)->oL 0 (Nx F.results λd m'=>Tells 0 ⟨[d],m'⟩ ⟨[.own 0 0],[.live S 0 l]⟩) e s:=by
  intro e s he ⟨S,h1,h2⟩ G w a hN hr;obtain⟨G',h3,h4⟩:=xp h1 hN hr
  grind
 intro e s hs
 cases e with
 |normal=>exact key _ s (λ_=>rfl) hs
 |ret=>exact key _ s (λ_=>rfl) hs
 |_=>exact(hs:False).elim
theorem H8{k S:Nat}{ds ds' l:List D}{m:List Ent}{f:D->List Ent->Prop}(h:qL P k ds' S l) (hf:f (.own m.length 0) (m++[.live S 0 l])) (hs:Tc ds ds'):lg P k ds m f:=
 Rk (IL hs (h m)) hf
inductive Q where
 |p (n:Nat)
 |k (n:Nat)
 |s (d:D)
 |y (i:Nat)
 |g (q:List Q)
inductive M1 where
 |o (j:Nat)
 |O (j:Nat)
 |H (j:Nat) (q:List Q)
 |C (j:Nat) (l:List D)
 |c (j:Nat) (l:List D)
 |n (S:Nat) (l:List D)
 |h (j:Nat) (q:List Q)
 |m (j:Nat) (l:List (Value×D))
structure Ed where
 q:List Q
 m:List M1
inductive Hi:Type 1 where
 |o
 |b (l r:Hi)
 |z (n:Nat) (x:Hi)
 |t (ρ:Jo)
 |a (ps:List (List Nat)) (x:Hi)
 |g (ps:List (List Nat)) (pl:List (Option Nat)) (x:Hi)
 |f (S:Ed) (ρ:Jo) (x:Hi)
 |d (M:List M1) (ρ:Jo) (x:Hi)
 |j {X:Type} (n:Nat) (S:X->Ed) (l r:Hi)
 |e {X:Type} (n:Nat) (S:X->Ed) (l r:Hi)
 |l {σ β:Type} (n m:Nat) (S:σ->Ed) (B:β->Ed) (ρ:Jo) (x y:Hi)
 |u {σ:Type} (n:Nat) (S:σ->Ed) (ρ:Jo) (x:Hi)
 |i {X:Type} {P:Program} {k:Nat} (K:Kf P k) (n w:Nat) (S:X->Ed) (x y:Hi)
 |c {P:Program} {k:Nat} (K:Kf P k) (w:Nat) (x:Hi)
 |v (x:Hi)
def Cm:List M1->Nat->Nat->Option (Nat×Bool)
 |[],_,_=>none
 |.o k::l,j,i=>bif k==j then some (i,false)else Cm l j (i+1)
 |.c k _::l,j,i=>bif k==j then some (i,false)else Cm l j (i+1)
 |.h k _::l,j,i=>bif k==j then some (i,false)else Cm l j (i+1)
 |.O k::l,j,i=>bif k==j then some (i,true)else Cm l j (i+1)
 |.H k _::l,j,i=>bif k==j then some (i,true)else Cm l j (i+1)
 |.C k _::l,j,i=>bif k==j then some (i,true)else Cm l j (i+1)
 |.n _ _::l,j,i=>Cm l j (i+1)
 |.m k _::l,j,i=>bif k==j then some (i,false)else Cm l j (i+1)
def nZ(o:Option (Nat×Bool)) (v:Nat) (f:Nat->Nat->D):D:=match o with|some (i,b)=>f i (bif b then v else 0)|none=>.dead
mutual
def dr(ks:List M1) (m:List Ent):Nat->D->D
 |n+1,.own j v=>gW ks m n v m[j]? (Cm ks j 0)
 |n+1,.ref j v x s=>iW ks m n v x s m[j]? (Cm ks j 0)
 |_+1,.view j v lo k=>nZ (Cm ks j 0) v λi v=>.view i v lo k
 |_+1,.mp j=>nZ (Cm ks j 0) 0 λi _=>.mp i
 |n+1,.agg l=>.agg (Ys ks m n l)
 |n+1,.tup l=>.tup (Ys ks m n l)
 |n+1,.fn k a c=>.fn k (Ys ks m n a) (Ys ks m n c)
 |n+1,.pt d=>.pt (dr ks m n d)
 |_,d=>d
def gW(ks:List M1) (m:List Ent) (n v:Nat):Option Ent->Option (Nat×Bool)->D
 |_,some (i,b)=>.own i (bif b then v else 0)
 |some (.live S _ l),none=>.sl S (Ys ks m n l)
 |_,none=>.dead
def iW(ks:List M1) (m:List Ent) (n v x s:Nat):Option Ent->Option (Nat×Bool)->D
 |_,some (i,b)=>.ref i (bif b then v else 0) x s
 |some (.live _ _ (d::_)),none=>.pt (dr ks m n d)
 |_,none=>.dead
def Ys(ks:List M1) (m:List Ent) (n:Nat):List D->List D
 |[]=>[]
 |d::l=>dr ks m n d::Ys ks m n l
end
mutual
theorem VD(ks:List M1) (m:List Ent):∀(n:Nat) (d:D),na d=true->dr ks m n d=d
 |n+1,.agg l,h=>by simp only[na]at h;simp only[dr,Ld ks m n l h]
 |n+1,.tup l,h=>by simp only[na]at h;simp only[dr,Ld ks m n l h]
 |n+1,.fn k a c,h=>by simp only[na,laa]at h;simp only[dr,Ld ks m n a h.1,Ld ks m n c h.2]
 |n+1,.pt d,h=>by simp only[na]at h;simp only[dr,VD ks m n d h]
 |_,.own _ _,h=>by grind[na]
 |_,.view _ _ _ _,h=>by grind[na]
 |_,.ref _ _ _ _,h=>by grind[na]
 |_,.mp _,h=>by grind[na]
 |n,.v _,_=>by grind[dr]
 |n,.sl _ _,_=>by grind[dr]
 |n,.ifc _ _,_=>by grind[dr]
 |n,.dead,_=>by grind[dr]
 |0,.agg _,_=>by simp only[dr]
 |0,.tup _,_=>by simp only[dr]
 |0,.fn _ _ _,_=>by simp only[dr]
 |0,.pt _,_=>by simp only[dr]
theorem Ld(ks:List M1) (m:List Ent) (n:Nat):∀l:List D,ia l=true->Ys ks m n l=l
 |[],_=>by grind[Ys]
 |d::l,h=>by simp only[ia,laa]at h;simp only[Ys,VD ks m n d h.1,Ld ks m n l h.2]
end
def YH:List D->List D
 |[]=>[]
 |_::l=>.dead::YH l
def Gu(ks:List M1) (m:List Ent) (u:List D):List Q->List D->List D
 |[],l=>YH l
 |_::_,[]=>[]
 |.p 0::q,l=>Gu ks m u q l
 |.p (n+1)::q,d::l=>dr ks m 9 d::Gu ks m u (.p n::q) l
 |.k 0::q,l=>Gu ks m u q l
 |.k (n+1)::q,d::l=>.dead::Gu ks m u (.k n::q) l
 |.s e::q,d::l=>e::Gu ks m u q l
 |.y i::q,_::l=>dr ks m 9 (u.getD i .dead)::Gu ks m u q l
 |.g r::q,.agg b::l=>.agg (Gu ks m u r b)::Gu ks m u q l
 |.g _::q,d::l=>d::Gu ks m u q l
def eO(ks:List M1) (m:List Ent):Option Ent->Ent
 |some (.live S v l)=>.live S 0 (Ys ks m 9 l)
 |some e=>e
 |none=>.gone
def eX(b:List D):Option Ent->Ent
 |some (.live S v _)=>.live S v b
 |some e=>e
 |none=>.gone
def eV(ks:List M1) (m:List Ent):Option Ent->Ent
 |some (.live S v l)=>.live S v (Ys ks m 9 l)
 |some e=>e
 |none=>.gone
def eW(ks:List M1) (m:List Ent) (q:List Q):Option Ent->Ent
 |some (.live S v l)=>.live S v (Gu ks m [] q l)
 |some e=>e
 |none=>.gone
def eC(b:List D):Option Ent->Ent
 |some (.live S v _)=>.live S 0 b
 |some e=>e
 |none=>.gone
def eH(ks:List M1) (m:List Ent) (q:List Q):Option Ent->Ent
 |some (.live S v l)=>.live S 0 (Gu ks m [] q l)
 |some e=>e
 |none=>.gone
def vR(ks:List M1) (m:List Ent):M1->Ent
 |.o j=>eO ks m m[j]?
 |.c j l=>eC l m[j]?
 |.n S l=>.live S 0 l
 |.h j q=>eH ks m q m[j]?
 |.O j=>eV ks m m[j]?
 |.C j l=>eX l m[j]?
 |.H j q=>eW ks m q m[j]?
 |.m _ l=>.mp l
def PZ(ks:List M1) (m:List Ent):List M1->List Ent
 |[]=>[]
 |x::l=>vR ks m x::PZ ks m l
def J8(ks:List M1) (m:List Ent):Option Ent->Ent
 |some (.live S _ l)=>.live S 0 (Ys ks m 9 l)
 |some e=>e
 |none=>.gone
def M9(ks:List M1) (m:List Ent):Option Ent->Ent
 |some (.live S v l)=>.live S v (Ys ks m 9 l)
 |some e=>e
 |none=>.gone
def wR(ks:List M1) (m:List Ent):List M1->List Ent
 |[]=>[]
 |.o j::l=>J8 ks m m[j]?::wR ks m l
 |.O j::l=>M9 ks m m[j]?::wR ks m l
 |_::l=>wR ks m l
def fd(ks:List M1) (s:St):St:=⟨Ys ks s.m 9 s.t,wR ks s.m ks⟩
def ed(E:Ed) (s:St):St:=⟨Gu E.m s.m s.t E.q s.t,PZ E.m s.m E.m⟩
section
variable {ks l:List M1} {i j k n S:Nat} {d e:D} {b c u:List D} {q:List Q} {t:List D} {m r:List Ent} {f:Nat->Nat->D} {x:M1} {v lo y:Nat} {a:Ent}
theorem n9:ed ⟨q,ks⟩ ⟨t,m⟩=⟨Gu ks m t q t,PZ ks m ks⟩:=daa rfl rfl
theorem gO:Cm [] j i=none:=daa rfl rfl
theorem iO:Cm (.o k::l) j i=bif k==j then some (i,false)else Cm l j (i+1):=daa rfl rfl
theorem mO:Cm (.O k::l) j i=bif k==j then some (i,true)else Cm l j (i+1):=daa rfl rfl
theorem nO:Cm (.H k q::l) j i=bif k==j then some (i,true)else Cm l j (i+1):=daa rfl rfl
theorem oO:Cm (.C k b::l) j i=bif k==j then some (i,true)else Cm l j (i+1):=daa rfl rfl
theorem jO:Cm (.c k b::l) j i=bif k==j then some (i,false)else Cm l j (i+1):=daa rfl rfl
theorem kO:Cm (.h k q::l) j i=bif k==j then some (i,false)else Cm l j (i+1):=daa rfl rfl
theorem lO:Cm (.n S b::l) j i=Cm l j (i+1):=daa rfl rfl
theorem qO{a:List (Value×D)}:Cm (.m k a::l) j i=bif k==j then some (i,false)else Cm l j (i+1):=daa rfl rfl
theorem l9{a:List (Value×D)}:vR ks m (.m j a)=.mp a:=daa rfl rfl
theorem y9{a:List (Value×D)}:eO ks m (some (.mp a))=.mp a:=daa rfl rfl
theorem U1{a:List (Value×D)}:J8 ks m (some (.mp a))=.mp a:=daa rfl rfl
theorem iX:nZ (some (i,true)) v f=f i v:=daa rfl rfl
theorem jX:nZ (some (i,false)) v f=f i 0:=daa rfl rfl
theorem hX:nZ none v f=.dead:=daa rfl rfl
theorem T8:vR ks m (.o j)=eO ks m m[j]?:=daa rfl rfl
theorem o9:eO ks m (some (.live S v b))=.live S 0 (Ys ks m 9 b):=daa rfl rfl
theorem p9:eC c (some (.live S v b))=.live S 0 c:=daa rfl rfl
theorem q9:eH ks m q (some (.live S v b))=.live S 0 (Gu ks m [] q b):=daa rfl rfl
theorem U8:vR ks m (.c j c)=eC c m[j]?:=daa rfl rfl
theorem V8:vR ks m (.n S b)=.live S 0 b:=daa rfl rfl
theorem X8:vR ks m (.O j)=eV ks m m[j]?:=daa rfl rfl
theorem Y8:vR ks m (.H j q)=eW ks m q m[j]?:=daa rfl rfl
theorem r9:eV ks m (some (.live S v b))=.live S v (Ys ks m 9 b):=daa rfl rfl
theorem u9:eW ks m q (some (.live S v b))=.live S v (Gu ks m [] q b):=daa rfl rfl
theorem Z8:vR ks m (.C j c)=eX c m[j]?:=daa rfl rfl
theorem w9:eX c (some (.live S v b))=.live S v c:=daa rfl rfl
theorem W8:vR ks m (.h j q)=eH ks m q m[j]?:=daa rfl rfl
theorem C9:PZ ks m []=[]:=daa rfl rfl
theorem D9:PZ ks m (x::l)=vR ks m x::PZ ks m l:=daa rfl rfl
theorem A9:YH []=[]:=daa rfl rfl
theorem B9:YH (d::b)=.dead::YH b:=daa rfl rfl
theorem E9:Gu ks m u [] b=YH b:=by grind[Gu]
theorem F9:Gu ks m u (.p 0::q) b=Gu ks m u q b:=by cases b<;>cases q<;>simp only[Gu,YH]
theorem G9:Gu ks m u (.p (n+1)::q) (d::b)=dr ks m 9 d::Gu ks m u (.p n::q) b:=by grind[Gu]
theorem H9:Gu ks m u (.k 0::q) b=Gu ks m u q b:=by cases b<;>cases q<;>simp only[Gu,YH]
theorem I9:Gu ks m u (.k (n+1)::q) (d::b)=.dead::Gu ks m u (.k n::q) b:=by grind[Gu]
theorem J9:Gu ks m u (.s e::q) (d::b)=e::Gu ks m u q b:=by grind[Gu]
theorem K9{g:List Q}:Gu ks m u (.g g::q) (.agg c::b)=.agg (Gu ks m u g c)::Gu ks m u q b:=by grind[Gu]
theorem L9{i:Nat}:Gu ks m u (.y i::q) (d::b)=dr ks m 9 (u.getD i .dead)::Gu ks m u q b:=by grind[Gu]
theorem V1:fd ks ⟨t,m⟩=⟨Ys ks m 9 t,wR ks m ks⟩:=daa rfl rfl
theorem VO:dr ks m (n+1) (.own j v)=gW ks m n v m[j]? (Cm ks j 0):=by grind[dr]
theorem WO:dr ks m (n+1) (.ref j v y k)=iW ks m n v y k m[j]? (Cm ks j 0):=by grind[dr]
theorem yJ:dr ks m (n+1) (.view j v lo k)=nZ (Cm ks j 0) v λi v=>.view i v lo k:=by grind[dr]
theorem NX:dr ks m (n+1) (.mp j)=nZ (Cm ks j 0) 0 λi _=>.mp i:=by grind[dr]
theorem PO:dr ks m (n+1) (.agg b)=.agg (Ys ks m n b):=by grind[dr]
theorem YO:dr ks m (n+1) (.tup b)=.tup (Ys ks m n b):=by grind[dr]
theorem GX:dr ks m (n+1) (.fn k b c)=.fn k (Ys ks m n b) (Ys ks m n c):=by grind[dr]
theorem UX:dr ks m (n+1) (.pt d)=.pt (dr ks m n d):=by grind[dr]
theorem Q9{x:Value}:dr ks m n (.v x)=.v x:=by grind[dr]
theorem ZX:dr ks m n (.sl S b)=.sl S b:=by grind[dr]
theorem TO:dr ks m n (.ifc S d)=.ifc S d:=by grind[dr]
theorem wJ:dr ks m n .dead=.dead:=by grind[dr]
theorem HX{α:Type}{e:α->D} [Fr e] {x:α}:dr ks m n (e x)=e x:=VD ks m n _ (Fr.h x)
theorem IX:Ys ks m n []=[]:=by grind[Ys]
theorem JX:Ys ks m n (d::b)=dr ks m n d::Ys ks m n b:=by grind[Ys]
theorem KX{α:Type}{e:α->D} [Fr e] {x:List α}:Ys ks m n (x.map e)=x.map e:=Ld ks m n _ (Fr.l x)
theorem QX{o:Option Ent}:gW ks m n v o (some (i,false))=.own i 0:=by simp_all[gW]
theorem RX{o:Option Ent}:gW ks m n v o (some (i,true))=.own i v:=by simp_all[gW]
theorem SX:gW ks m n v (some (.live S k b)) none=.sl S (Ys ks m n b):=by grind[gW]
theorem VX{o:Option Ent}:iW ks m n v y k o (some (i,false))=.ref i 0 y k:=by simp_all[iW]
theorem WX{o:Option Ent}:iW ks m n v y k o (some (i,true))=.ref i v y k:=by simp_all[iW]
theorem XX:iW ks m n v y k (some (.live S j (d::b))) none=.pt (dr ks m n d):=by grind[iW]
theorem Q1:J8 ks m (some (.live S v b))=.live S 0 (Ys ks m 9 b):=daa rfl rfl
theorem T1:M9 ks m (some (.live S v b))=.live S v (Ys ks m 9 b):=daa rfl rfl
theorem X1:wR ks m []=[]:=daa rfl rfl
theorem Y1:wR ks m (.o j::l)=J8 ks m m[j]?::wR ks m l:=daa rfl rfl
theorem Z1:wR ks m (.O j::l)=M9 ks m m[j]?::wR ks m l:=daa rfl rfl
theorem fX{α:Type}{x y:α}:(bif true then x else y)=x:=daa rfl rfl
theorem gX{α:Type}{x y:α}:(bif false then x else y)=y:=daa rfl rfl
end
theorem zf:type_of% (And.intro (And.intro (And.intro (And.intro (And.intro (And.intro @V1 @VO) (And.intro @WO @yJ)) (And.intro (And.intro @NX @PO) (And.intro @YO @GX))) (And.intro (And.intro (And.intro @UX @Q9) (And.intro @ZX @TO)) (And.intro (And.intro @wJ @HX) (And.intro @IX @JX)))) (And.intro (And.intro (And.intro (And.intro @KX @QX) (And.intro @RX @SX)) (And.intro (And.intro @VX @WX) (And.intro @XX @Q1))) (And.intro (And.intro (And.intro @T1 @X1) (And.intro (And.intro @Y1 (And.intro @qO @U1)) @Z1)) (And.intro (And.intro @gO @iO) (And.intro @jO @kO))))) (And.intro (And.intro (And.intro (And.intro @lO @mO) (And.intro @nO @oO)) (And.intro (And.intro @iX @jX) (And.intro @hX @fX))) (And.intro (And.intro @gX @Paa.{0}) @fab.{0}))):=(And.intro (And.intro (And.intro (And.intro (And.intro (And.intro @V1 @VO) (And.intro @WO @yJ)) (And.intro (And.intro @NX @PO) (And.intro @YO @GX))) (And.intro (And.intro (And.intro @UX @Q9) (And.intro @ZX @TO)) (And.intro (And.intro @wJ @HX) (And.intro @IX @JX)))) (And.intro (And.intro (And.intro (And.intro @KX @QX) (And.intro @RX @SX)) (And.intro (And.intro @VX @WX) (And.intro @XX @Q1))) (And.intro (And.intro (And.intro @T1 @X1) (And.intro (And.intro @Y1 (And.intro @qO @U1)) @Z1)) (And.intro (And.intro @gO @iO) (And.intro @jO @kO))))) (And.intro (And.intro (And.intro (And.intro @lO @mO) (And.intro @nO @oO)) (And.intro (And.intro @iX @jX) (And.intro @hX @fX))) (And.intro (And.intro @gX @Paa.{0}) @fab.{0})))def zd:=(And.intro (And.intro (And.intro (And.intro (And.intro (And.intro (And.intro @n9 @gO) (And.intro @iO @jO)) (And.intro (And.intro @kO @lO) (And.intro @mO @nO))) (And.intro (And.intro (And.intro @oO @iX) (And.intro @jX @hX)) (And.intro (And.intro @T8 @U8) (And.intro @V8 @W8)))) (And.intro (And.intro (And.intro (And.intro @X8 @Y8) (And.intro @Z8 @o9)) (And.intro (And.intro @p9 @q9) (And.intro @r9 @u9))) (And.intro (And.intro (And.intro (And.intro @w9 (And.intro @qO (And.intro @l9 @y9))) @C9) (And.intro @D9 @A9)) (And.intro (And.intro @B9 @E9) (And.intro @F9 @G9))))) (And.intro (And.intro (And.intro (And.intro (And.intro @H9 @I9) (And.intro @J9 @K9)) (And.intro (And.intro @L9 @VO) (And.intro @WO @yJ))) (And.intro (And.intro (And.intro @NX @PO) (And.intro @YO @GX)) (And.intro (And.intro @UX @Q9) (And.intro @ZX @TO)))) (And.intro (And.intro (And.intro (And.intro @wJ @HX) (And.intro @IX @JX)) (And.intro (And.intro @KX @QX) (And.intro @RX @SX))) (And.intro (And.intro (And.intro @VX @WX) (And.intro @XX @Rab.{0})) (And.intro (And.intro @Vac.{0} @fX) (And.intro @gX @Paa.{0})))))) @fab.{0})
class HiC:Type 1 where
 h:Hi
def Yi[i:HiC] (p:Prop):Prop:=p
structure Wh (n:Nat) (p:Prop):Prop where
 h:p
structure Lh (n:Nat) (p:Prop):Prop where
 h:p
def EQ(p:Prop):Prop:=p
theorem EQ.out{p:Prop}(h:EQ p):p:=h
structure Lk {α β:Type}(c:α->β) (z:β) (w:α) (p:Prop):Prop where
 l:∀v,z=c v->v=w
 k:p
theorem cN{p:Prop}(h:¬p):¬p:=h
class Con (p:Prop) (q:outParam Prop):Prop where
 h:p->q
class Enc (α:Type) (e:outParam (α->D)):Prop where
 h:True
section
variable {P:Program} {N:Nat} {h x:Hi} {a b:C} {K:Exit->St->Prop} {s:St}
theorem gj{X:Type}{n:Nat}{S:X->Ed}(g:@Yi ⟨.j n S h x⟩ (Tm.T P N (.seq a b) K s)):@Yi ⟨.j n S h x⟩ (Tm.T P N (.seq a b) K s):=g
theorem ge{X:Type}{n:Nat}{S:X->Ed}(g:@Yi ⟨.e n S h x⟩ (Tm.T P N (.seq a b) K s)):@Yi ⟨.e n S h x⟩ (Tm.T P N (.seq a b) K s):=g
theorem gq{p:Prop}{R1 R2:St->Prop}{s1 s2:St}(g:@Yi ⟨h⟩ (gP p (R1 s1) (R2 s2))):@Yi ⟨h⟩ (gQ p R1 s1 R2 s2):=g
theorem gy1{R:List (List Nat)->St->Prop}{fp:List (List Nat)}{p:List Nat}{d:Option Tmp}{i:I}(g:@Yi ⟨h⟩ (GM R fp p d i s)):@Yi ⟨h⟩ (GM R fp p d i s):=g
theorem gy2{R:List (List Nat)->St->Prop}{fp:List (List Nat)}{p:List Nat}{d:Option Tmp}{i:I}(g:@Yi ⟨h⟩ (vZ R fp p d i s)):@Yi ⟨h⟩ (vZ R fp p d i s):=g
theorem gy3{R:List (List Nat)->St->Prop}{fp:List (List Nat)}{p:List Nat}{k:FuncId}{d:Option Tmp}{i:List Operand}(g:@Yi ⟨h⟩ (XN P R fp p k d i s)):@Yi ⟨h⟩ (XN P R fp p k d i s):=g
theorem gy4{R:List (List Nat)->St->Prop}{fp:List (List Nat)}{p:List Nat}{d:Option Tmp}{i:List Operand}(g:@Yi ⟨h⟩ (L0 R fp p d i s)):@Yi ⟨h⟩ (L0 R fp p d i s):=g
theorem gy5{ps:List (List Nat)}{q:Nat}{l:List RI}{R:St->Prop}{fp:List (List Nat)}(g:@Yi ⟨h⟩ (ft P ps q l R fp s)):@Yi ⟨h⟩ (ft P ps q l R fp s):=g
theorem gg{p A B:Prop}(g:@Yi ⟨h⟩ (gP p A B)):@Yi ⟨h⟩ (gP p A B):=g
theorem gcd{c:Operand}(g:@Yi ⟨h⟩ (Tm.T P N (.cond c a b) K s)):@Yi ⟨h⟩ (Tm.T P N (.cond c a b) K s):=g
theorem gcx{k:Nat}{ds:List D}{m:List Ent}{f:D->List Ent->Prop}(g:@Yi ⟨h⟩ (lg P k ds m f)):@Yi ⟨h⟩ (lg P k ds m f):=g
theorem gcl{k:Nat}{ds:List D}{i:List Nat}{R:St->Prop}{d:Option Tmp}(g:@Yi ⟨h⟩ (Nt P k ds i R s d)):@Yi ⟨h⟩ (Nt P k ds i R s d):=g
theorem gl{σ β:Type}{n m:Nat}{S:σ->Ed}{B:β->Ed}{ρ:Jo}{y:Hi}{id:Nat}(g:@Yi ⟨.l n m S B ρ x y⟩ (Tm.T P N (.block id (.loop a)) K s)):@Yi ⟨.l n m S B ρ x y⟩ (Tm.T P N (.block id (.loop a)) K s):=g
theorem gu{σ:Type}{n:Nat}{S:σ->Ed}{ρ:Jo}{id:Nat}(g:@Yi ⟨.u n S ρ x⟩ (Tm.T P N (.block id (.loop a)) K s)):@Yi ⟨.u n S ρ x⟩ (Tm.T P N (.block id (.loop a)) K s):=g
theorem gf{E:Ed}{ρ:Jo}{q:Prop}(g:@Yi ⟨.f E ρ x⟩ q):@Yi ⟨.f E ρ x⟩ q:=g
theorem ga{ps:List (List Nat)}{q:Prop}(g:@Yi ⟨.a ps x⟩ q):@Yi ⟨.a ps x⟩ q:=g
theorem gao{ps:List (List Nat)}{pl:List (Option Nat)}{q:Prop}(g:@Yi ⟨.g ps pl x⟩ q):@Yi ⟨.g ps pl x⟩ q:=g
theorem yss(g:@Yi ⟨h⟩ (Tm.T P N a (KS P N b K) s)):@Yi ⟨h⟩ (Tm.T P N (.seq a b) K s):=T.Dy g
theorem yz{n:Nat}(g:@Yi ⟨.z n h⟩ (Tm.T P N a (KS P N b K) s)):@Yi ⟨.z (n+1) h⟩ (Tm.T P N (.seq a b) K s):=T.Dy g
theorem yz0{p:Prop}(g:@Yi ⟨h⟩ p):@Yi ⟨.z 0 h⟩ p:=g
theorem yrg{l:List RI}(g:@Yi ⟨h⟩ (wh P l (K .normal) s)):@Yi ⟨h⟩ (Tm.T P N (.oN l) K s):=T.rg g
theorem ydy{q:Nat}{l:List RI}(hm:P.follows .mixedOrders=true) (g:@Yi ⟨h⟩ (ft P [] q l (K .normal) [] s)):@Yi ⟨h⟩ (Tm.T P N (.draw q l) K s):=T.dy hm g
theorem yay{q:Nat}{l:List RI}{cuts:List Nat}{bs ps:List (List Nat)}(hm:P.follows .mixedOrders=true) (hok:Js bs l q ps []=true) (g:@Yi ⟨h⟩ (ft P ps q l (K .normal) [] s)):@Yi ⟨.a ps h⟩ (Tm.T P N (.any cuts q bs l) K s):=T.ay hm ps hok g
theorem yao{q:Nat}{l:List RI}{cuts:List Nat}{bs ps:List (List Nat)}{pl:List (Option Nat)}(hm:P.follows .mixedOrders=true) (hok:Js bs l q ps pl=true) (hpl:Nn s.m pl=true) (g:@Yi ⟨h⟩ (cg P pl ps q l (K .normal) [] s)):@Yi ⟨.g ps pl h⟩ (Tm.T P N (.any cuts q bs l) K s):=T.ao hm ps pl hok hpl g
theorem ysk(g:@Yi ⟨h⟩ (K .normal s)):@Yi ⟨h⟩ (Tm.T P N .skip K s):=T.skip g
theorem yxt{id:Nat}(g:@Yi ⟨h⟩ (K (.exit id) s)):@Yi ⟨h⟩ (Tm.T P N (.exit id) K s):=T.exit g
theorem ybk{id:Nat}(g:@Yi ⟨h⟩ (Tm.T P N a (KB id K) s)):@Yi ⟨h⟩ (Tm.T P N (.block id a) K s):=T.bk g
theorem ycd{c:Operand}{t:Bool}(ht:s.ev c=.v (.bool t)) (g:@Yi ⟨h⟩ (gP (t=true) (Tm.T P N a K s) (Tm.T P N b K s))):@Yi ⟨h⟩ (Tm.T P N (.cond c a b) K s):=T.cd ht g
theorem ygi{p q A' B':Prop} [Decidable q] {α:Type}{A B:Option α}{r:α}(h1:q->A=some r->@Yi ⟨h⟩ A') (h2:¬q->B=some r->@Yi ⟨x⟩ B') (hpq:p=q:=by rfl) (e:(if q then A else B)=some r):@Yi ⟨.b h x⟩ (gP p A' B'):=gP.ite e (iff_of_eq hpq) h1 h2
theorem ygo{p q A' B':Prop} [Decidable q] {α:Type}{A B:Option α}{r:α}(h1:q->A=some r->@Yi ⟨.o⟩ A') (h2:¬q->B=some r->@Yi ⟨.o⟩ B') (hpq:p=q:=by rfl) (e:(if q then A else B)=some r):@Yi ⟨.o⟩ (gP p A' B'):=gP.ite e (iff_of_eq hpq) h1 h2
theorem ygc{p q A' B':Prop} [Decidable q] {α:Type}{A B:Option α}{r:α}(h1:q->A=some r->@Yi ⟨h⟩ A') (h2:¬q->B=some r->@Yi ⟨x⟩ B') (hpq:p↔q) (e:(if q then A else B)=some r):@Yi ⟨.b h x⟩ (gP p A' B'):=gP.ite e hpq h1 h2
theorem ygoc{p q A' B':Prop} [Decidable q] {α:Type}{A B:Option α}{r:α}(h1:q->A=some r->@Yi ⟨.o⟩ A') (h2:¬q->B=some r->@Yi ⟨.o⟩ B') (hpq:p↔q) (e:(if q then A else B)=some r):@Yi ⟨.o⟩ (gP p A' B'):=gP.ite e hpq h1 h2
theorem ycq{k:Nat}{p:Prop}{ds ds':List D}{o:D}{m:List Ent}{f:D->List Ent->Prop} [c:Con p (Den P k ds' o)] (e:p) (hf:@Yi ⟨h⟩ (f o m)) (hs:WA (Sq [] [] 9) ds ds'):@Yi ⟨h⟩ (lg P k ds m f):=cG (c.h e) hf hs
theorem ycv{k:Nat}{p:Prop}{ds ds':List D}{o:D}{m:List Ent}{f:D->List Ent->Prop} [c:Con p (Den P k ds' o)] (e:p) (hf:@Yi ⟨h⟩ (f o m)) (hfl:flat o=true) (hs:WA (Sq [] m 9) ds ds'):@Yi ⟨h⟩ (lg P k ds m f):=BC (c.h e) hf hfl hs
theorem ylq{k:Nat}{p:Prop}{ds ds':List D}{o:D}{R:St->Prop}{dst:Option Tmp} [c:Con p (Den P k ds' o)] (e:p) (hf:@Yi ⟨h⟩ (R (s.put dst o))) (hs:WA (Sq [] [] 9) ds ds'):@Yi ⟨h⟩ (Nt P k ds [] R s dst):=YF (c.h e) hf hs
theorem ylv{k:Nat}{p:Prop}{ids:List Nat}{ds ds':List D}{o:D}{R:St->Prop}{dst:Option Tmp} [c:Con p (Den P k ds' o)] (e:p) (hf:@Yi ⟨h⟩ (R (s.put dst o))) (hfl:flat o=true) (hi:(ids.all λi=>decide (i<s.m.length))=true) (ht:DB ids ds=true) (hs:WA (Lq s.m) ds ds'):@Yi ⟨h⟩ (Nt P k ds ids R s dst):=zC (c.h e) hf hfl hi ht hs
theorem zV{s' S:St}{ρ:Jo}(g:WA (Sq ρ s'.m 9) s'.t S.t/\VA ρ s'.m ρ S.m) (hk:Zv ρ N=true) (h3:(ρ.filterMap (·.1)).Nodup):@Yi ⟨.t ρ⟩ (Tells N s' S):=Tells.q ρ hk h3 g
theorem yrt(g:K .ret s):@Yi ⟨h⟩ (Tm.T P N .ret K s):=T.ret g
theorem yen{rs:List RV}{o:D}(g:JH (sd s rs) s.m o):@Yi ⟨h⟩ (uE rs o .normal s):=nW g
theorem yf{S:Ed}{S':St}{ρ:Jo}(hS:ed S s=S') (g:@Yi ⟨.t ρ⟩ (Tells N s S')) (g2:@Yi ⟨h⟩ (Tm.T P N a K S')):@Yi ⟨.f S ρ h⟩ (Tm.T P N a K s):=T.lE g g2
theorem gd{M:List M1}{ρ:Jo}{q:Prop}(g:@Yi ⟨.d M ρ x⟩ q):@Yi ⟨.d M ρ x⟩ q:=g
theorem yd{M:List M1}{S':St}{ρ:Jo}(hS:fd M s=S') (g:@Yi ⟨.t ρ⟩ (Tells N s S')) (g2:@Yi ⟨h⟩ (Tm.T P N a K S')):@Yi ⟨.d M ρ h⟩ (Tm.T P N a K s):=T.lE g g2
theorem yj[StbC N K] {X β:Type}{n:Nat}{S:X->Ed}{S':X->St}{o:Option X}{f:X->Option β}{r:β}(hS:∀z,ed (S z) s=S' z)
 (ha:∀z,o=some z->True->@Yi ⟨h⟩ (Tm.T P N a (KJ N K S' (.inl z:X⊕Unit)) s)) (hb:Wh n (∀z,f z=some r->@Yi ⟨x⟩ (Tm.T P N b K (S' z)))) (e:o.bind f=some r):@Yi ⟨.j n S h x⟩ (Tm.T P N (.seq a b) K s):=
 jn S' e (λz hz=>ha z hz trivial) λz _ hz=>hb.h z hz
theorem ye[StbC N K] {X R:Type}{n:Nat}{S:X->Ed}{S':X->St}{o:Option (X⊕R)}{f:X⊕R->Option R}{r:R}{p:Prop}(k:p) (hS:∀z,ed (S z) s=S' z)
 (ha:∀z,o=some z->Lk Sum.inr z r p->@Yi ⟨h⟩ (Tm.T P N a (KJ N K S' z) s)) (hb:Wh n (∀z,f (.inl z)=some r->@Yi ⟨x⟩ (Tm.T P N b K (S' z)))) (hf:∀v,f (.inr v)=some v:=by intros;rfl) (e:o.bind f=some r):@Yi ⟨.e n S h x⟩ (Tm.T P N (.seq a b) K s):=by
 obtain⟨z,h1,h2⟩:=zm e;refine T.join S' z (ha z h1 ⟨?_,k⟩) ?_
 .grind
 .rintro y rfl;exact hb.h y h2
theorem yl[StbC N K] {σ β R:Type}{n m id:Nat}{x0:σ}{step:σ->Option (Ex σ β R)}{S:σ->Ed}{B:β->Ed}{S':σ->St}{B':β->St}{f:β⊕R->Option R}{r:R}{p:Prop}{τ:Jo}(k:p)
 (hS:∀z,ed (S z) s=S' z) (hB:∀z,ed (B z) s=B' z) (ht:@Yi ⟨.t τ⟩ (Tells N s (S' x0)))
 (ha:Lh n (∀q z,step q=some z->Lk Ex.ret z r p->@Yi ⟨h⟩ (Tm.T P N a (KL N id K S' B' z) (S' q)))) (hb:Wh m (∀z,f (.inl z)=some r->@Yi ⟨x⟩ (K .normal (B' z)))) (hf:∀v,f (.inr v)=some v:=by intros;rfl) (e:(fa step x0).bind f=some r) :
 @Yi ⟨.l n m S B τ h x⟩ (Tm.T P N (.block id (.loop a)) K s):=by
 obtain⟨y,h1,h2⟩:=zm e;refine lm h1 S' B' ht (λq z hz hv=>ha.h q z hz ⟨?_,k⟩) ?_
 .grind
 .rintro b rfl;exact hb.h b h2
theorem yl'[StbC N K] {σ β R ρ:Type}{n m id:Nat}{x0:σ}{step:σ->Option (Ex σ β ρ)}{S:σ->Ed}{B:β->Ed}{S':σ->St}{B':β->St}{f:β⊕ρ->Option R}{r:R}{τ:Jo}
 (hS:∀z,ed (S z) s=S' z) (hB:∀z,ed (B z) s=B' z) (ht:@Yi ⟨.t τ⟩ (Tells N s (S' x0)))
 (ha:Lh n (∀q z,step q=some z->True->@Yi ⟨h⟩ (Tm.T P N a (KL N id K S' B' z) (S' q)))) (hb:Wh m (∀z,f (.inl z)=some r->@Yi ⟨x⟩ (K .normal (B' z)))) (e:(fa step x0).bind f=some r) :
 @Yi ⟨.l n m S B τ h x⟩ (Tm.T P N (.block id (.loop a)) K s):=by
 obtain⟨y,h1,h2⟩:=zm e;refine lm h1 S' B' ht (λq z hz _=>ha.h q z hz trivial) ?_;rintro b rfl;exact hb.h b h2
theorem yu[StbC N K] {σ R:Type}{n id:Nat}{x0:σ}{step:σ->Option (Ex σ Empty R)}{S:σ->Ed}{S':σ->St}{f:Empty⊕R->Option R}{r:R}{p:Prop}{τ:Jo}(k:p)
 (hS:∀z,ed (S z) s=S' z) (ht:@Yi ⟨.t τ⟩ (Tells N s (S' x0)))
 (ha:Lh n (∀q z,step q=some z->Lk Ex.ret z r p->@Yi ⟨h⟩ (Tm.T P N a (KL N id K S' (λq:Empty=>q.elim) z) (S' q)))) (hf:∀v,f (.inr v)=some v:=by intros;rfl) (e:(fa step x0).bind f=some r) :
 @Yi ⟨.u n S τ h⟩ (Tm.T P N (.block id (.loop a)) K s):=by
 obtain⟨y,h1,h2⟩:=zm e;refine lm h1 S' (λq:Empty=>q.elim) ht (λq z hz hv=>ha.h q z hz ⟨?_,k⟩) (λq=>q.elim)
 grind
theorem vw{n:Nat}{p:Prop}(h:p):Wh n p:=⟨h⟩
theorem vl{n:Nat}{p:Prop}(h:p):Lh n p:=⟨h⟩
theorem yT:@Yi ⟨h⟩ True:=trivial
end
section
variable {α β:Type} {e:α->D} {l r:List α} {i:Int} {y:α} {b:Nat} {g:List α->Option β} {z:β}
theorem bA[Enc α e] (h:(app b l r).bind g=some z):∃x,(l.length+r.length)*b<=2 ^ 47/\l.map e++r.map e=x.map e/\g x=some z:=by
 obtain⟨x,h1,h2⟩:=zm h;exact⟨x,(gF (e:=e) h1).1,(gF h1).2,h2⟩
theorem bP[Enc α e] (h:(put l i y).bind g=some z):∃x,i.toNat<l.length/\(l.map e).set i.toNat (e y)=x.map e/\g x=some z:=by
 obtain⟨x,h1,h2⟩:=zm h;exact⟨x,(UP (e:=e) h1).1,(UP h1).2,h2⟩
theorem bM[Enc α e] {n c:Int}(h:(sE b y n c).bind g=some z):∃x,0<=n/\n<=c/\c<=2 ^ 62/\c.toNat*b<=2 ^ 48/\gaa n.toNat (e y)=x.map e/\g x=some z:=by
 obtain⟨x,h1,h2⟩:=zm h;obtain⟨h3,h4,h5,h6,h7⟩:=yP (e:=e) h1
 grind
theorem bZ(h:(Zq l 0).bind g=some z):g []=some z:=by
 grind[Zq]
theorem bH[Enc α e] (h:(Zq l i).bind g=some z):∃x,0<=i/\i.toNat<=l.length/\(l.map e).take i.toNat=x.map e/\((l.map e).drop 0).take (i.toNat-0)=x.map e/\g x=some z:=by
 obtain⟨x,h1,h2⟩:=zm h;obtain⟨h3,h4,h5⟩:=sV (e:=e) h1
 grind
theorem bL[Enc α e] (h:(aC l i).bind g=some z):∃x,0<=i/\i.toNat<=l.length/\i.toNat+x.length<=l.length/\l.length-i.toNat=x.length/\((l.map e).take l.length).drop i.toNat=x.map e/\((l.map e).drop i.toNat).take x.length=x.map e/\g x=some z:=by
 obtain⟨x,h1,h2⟩:=zm h;obtain⟨h3,h4,h5,h6,h7⟩:=EZ (e:=e) h1
 grind[yK]
theorem bQ{k:IntKind}{a c:Int}{g:Int->Option β}(h:(quo k a c).bind g=some z):∃x,¬c=0/\ea k (a.tdiv c)=x/\g x=some z:=by
 obtain⟨x,h1,h2⟩:=zm h
 grind[U7]
theorem bR{k:IntKind}{a c:Int}{g:Int->Option β}(h:(rem k a c).bind g=some z):∃x,¬c=0/\a.tmod c=x/\g x=some z:=by
 obtain⟨x,h1,h2⟩:=zm h;exact⟨x,(fW h1).1,(fW h1).2,h2⟩
theorem bX{s:ByteArray}{i:Int}{g:Int->Option β}(h:(Zr s i).bind g=some z):∃x,Zr s i=some x/\g x=some z:=zm h
end
theorem cT{a b:Bool}(h:a=b):a=b:=h
variable {P:Program}
theorem aG{k:Nat}{ds:List D}{m:List Ent}{R:D->List Ent->Prop}{d2:D}{m2:List Ent}(h:CallT P k ds m R) (ht:∀d m',R d m'->Tells m.length ⟨[d],m'⟩ ⟨[d2],m2⟩):CallT P k ds m λd m'=>d=d2/\m'=m2:=by
 refine⟨h.1,λG w vs hv hi=>(h.2 G w vs hv hi).mono ?_⟩;rintro e w' ⟨v,d,m',G',rfl,hR,hvd,hi',hs⟩;have hr:Rel G' w' { tmps:=#[v],defers:=[] } ⟨[d],m'⟩:=⟨by simp only[VsRel];simp_all,hi',rfl⟩;have hN:m.length=G.n:=hi.n.symm;have h0:=hs.kW (Nat.le_of_eq hN);obtain⟨G'',h3,h4⟩:=xp (ht d m' hR) h0.n hr;have hT:=h3.t;simp only[VsRel]at hT;obtain⟨u,us,he,h1,_⟩:=hT;injection he with he _;subst he;have h5:=h0.trans h4;rw[hN]at h5;exact⟨_,d2,m2,G'',rfl,⟨rfl,rfl⟩,h1,h3.inv,h5.toStep⟩
def EI(N:Nat) (rs:List RV) (S:St) (e:Exit) (s:St):Prop:=
 match e with
 |.normal=>∃S',Tells N s S'/\∃ds,sd S' rs=some ds/\Tells N ⟨[ym ds],S'.m⟩ S
 |.ret=>∃S',Tells N s S'/\∃ds,sd S' rs=some ds/\Tells N ⟨[ym ds],S'.m⟩ S
 |_=>False
def KH(N:Nat) (r:Option (List D)) (m:List Ent) (S:St):Prop:=∃ds,r=some ds/\Tells N ⟨[ym ds],m⟩ S
theorem PI{N:Nat}{rs:List RV}{S s:St}(h:KH N (sd s rs) s.m S):EI N rs S .ret s:=by
 obtain⟨ds,h1,h2⟩:=h;exact⟨s,.refl s,ds,h1,h2⟩
theorem mW{N:Nat}{rs:List RV}{S s:St}(h:KH N (sd s rs) s.m S):EI N rs S .normal s:=by
 obtain⟨ds,h1,h2⟩:=h;exact⟨s,.refl s,ds,h1,h2⟩
theorem Hw{N:Nat}{ds:List D}{m:List Ent}{S:St}:KH N (some ds) m S=Tells N ⟨[ym ds],m⟩ S:=by simp[KH]
@[congr] theorem uX{N:Nat} {r r':Option (List D)} {m:List Ent} {S:St} (h:r=r'):KH N r m S=KH N r' m S:=by rw[h]
instance {N:Nat}{rs:List RV}{S:St}:StbC N (EI N rs S):=⟨by
 rintro s S' h ⟨S1,h1,h2⟩;exact⟨S1,h.trans h1,h2⟩⟩
theorem Jv{k:Nat}(KF:Kf P k) {ds:List D}{m m2:List Ent}{d2:D}(w:Nat) (hw:KF.F.ntmps=ds.length+w) (h:T P m.length KF.F.code (EI m.length KF.F.results ⟨[d2],m2⟩) ⟨ds++Tm.ds w [],m⟩):CallT P k ds m λd m'=>d=d2/\m'=m2:=by
 refine aG (R:=λd m'=>Tells m.length ⟨[d],m'⟩ ⟨[d2],m2⟩) (Sy KF.ok KF.nm ?_) λ_ _ h=>h;rw[hw,Sab,←pA];refine T.J0 (h.mono ?_);have key:∀(e:Exit) (s:St),(∀s',Nx KF.F.results (λd m'=>Tells m.length ⟨[d],m'⟩ ⟨[d2],m2⟩) e s' = ∃ds,sd s' KF.F.results=some ds/\Tells m.length ⟨[ym ds],s'.m⟩ ⟨[d2],m2⟩)->(∃S',Tells m.length s S'/\∃ds,sd S' KF.F.results=some ds/\Tells m.length ⟨[ym ds],S'.m⟩ ⟨[d2],m2⟩)->oL m.length (Nx KF.F.results λd m'=>Tells m.length ⟨[d],m'⟩ ⟨[d2],m2⟩) e s:=by
  intro e s he ⟨S,h1,h2⟩ G w a hN hr
  grind[xp]
 intro e s hs
 cases e with
 |normal=>exact key _ s (λ_=>rfl) hs
 |ret=>exact key _ s (λ_=>rfl) hs
 |_=>exact(hs:False).elim
theorem qK{a:Int}{k:IntKind}:Ln .shr .u64 a k 1=some (.int .u64 (a.fdiv 2)):=by
 have h:((2 ^ (min (1:Int).toNat IntKind.u64.bits):Nat):Int)=2:=by decide
 grind[Ln]
def mL:List Int:=[31,28,31,30,31,30,31,31,30,31,30,31]
def Z0(n:Int):D:=.v (.int .i64 n)
theorem NV{s:St}:s.ev (.global 2)=.pt (.agg (mL.map Z0)):=daa rfl rfl
theorem DO{n:Int}:Z0 n=.v (.int .i64 n):=daa rfl rfl
def lst{α:Type}(l:List α):Option (List α):=some l
def mka{α:Type}(b:Nat) (z:α) (n:Int):Option (List α):=if 0<n/\n.toNat*b<=2 ^ 47 then some (gaa n.toNat z)else none
def K0{α:Type}(l:List α) (lo:Int) (v:List α) (z:α):Option (List α):=if 0<=lo/\lo.toNat+v.length<=l.length then some (l.take lo.toNat++gaa v.length z++l.drop (lo.toNat+v.length))else none
section
variable {α β:Type} {e:α->D} {l v:List α} {i:Int} {y:α} {b:Nat} {g:List α->Option β} {z:β}
theorem bK[Enc α e] (h:(mka b y i).bind g=some z):∃x,0<i/\i.toNat*b<=2 ^ 47/\gaa i.toNat (e y)=x.map e/\g x=some z:=by
 obtain⟨x,h1,h2⟩:=zm h;unfold mka at h1;split at h1
 .rename_i hc;obtain rfl:=Faa h1;exact⟨_,hc.1,hc.2,List.map_replicate.symm,h2⟩
 simp_all
theorem bC[Enc α e] (h:(K0 l i v y).bind g=some z):∃x,(l.map e).take i.toNat++gaa v.length (e y)++(l.map e).drop (i.toNat+v.length)=x.map e/\g x=some z:=by
 obtain⟨x,h1,h2⟩:=zm h;unfold K0 at h1;split at h1
 .obtain rfl:=Faa h1;exact⟨_,by simp,h2⟩
 simp_all
theorem bV[Enc α e] (h:(lst l).bind g=some z):∃x,l.map e=x.map e/\g x=some z:=by
 obtain⟨x,h1,h2⟩:=zm h;obtain rfl:=Faa h1
 grind
theorem bG{g:Int->Option β}(h:(idx mL i).bind g=some z):∃x,0<=i/\mL[i.toNat]?=some x/\i.toNat<12/\g x=some z:=bO h
theorem zn:type_of% (And.intro (And.intro @qK @NV) (And.intro @DO @kac)):=And.intro (And.intro @qK @NV) (And.intro @DO @kac)
end
def AR(P:Program) (k:Nat) (S:Nat) (l l':List D):Prop:=∀m id Ja,m[id]?=some (.live S Ja l)->CallT P k [.own id Ja] m λd m'=>d=.own id (Ja+1)/\m'=m.set id (.live S (Ja+1) l')
section
open Go.Sort
theorem sO{k:FuncId}(hE:Enters P k) {zs ys:List Int}(hlen:ys.length<=zs.length)
 (h1:∀w b off cap,Holds (Value.int .i64) w b off zs.toArray->zs.length<=cap->Calls P k #[.slice (some ⟨b,off,none⟩) zs.length cap] w λe w'=>e=.returned (.slice (some ⟨b,off,none⟩) ys.length cap)/\∃n xs,xs.length+ys.length=zs.length/\w'=grow (putRow (Value.int .i64) (Sort.ahead w n) b off (ys++xs).toArray) #[])
 (h0:∀w cap,Calls P k #[.slice none 0 cap] w λe w'=>e=.returned (.slice none 0 cap)/\w'=w):AR P k 1 (zs.map eI) (ys.map eI):=
 λm id Ja hm=>WI hE hm hlen h1 h0
end
section
variable {h:Hi} {k id S Ja:Nat} {p:Prop} {pre post l l' ds:List D} {o:D} {m:List Ent} {f:D->List Ent->Prop}
theorem ycA[c:Con p (AR P k S l l')] (e:p) (hf:@Yi ⟨h⟩ (f (.own id (Ja+1)) (m.set id (.live S (Ja+1) l')))) (hm:m[id]?=some (.live S Ja l)):@Yi ⟨h⟩ (lg P k [.own id Ja] m f):=Rk (c.h e m id Ja hm) hf
theorem ycf{d d':D}{q:List D} [c:Con p (Den P k ([d']++q) o)] (e:p) (hq:ia q=true) (hf:@Yi ⟨h⟩ (f o m)) (hs:Sq [] [] 9 d d'):@Yi ⟨h⟩ (lg P k (d::q) m f):=ON (c.h e) hq hf hs
theorem ycC[c:Con p (EB P k pre post S l o)] (e:p) (hf:@Yi ⟨h⟩ (f o (m.set id .gone))) (hds:ds=pre++.own id Ja::post) (hm:m[id]?=some (.live S Ja l)):@Yi ⟨h⟩ (lg P k ds m f):=rK (c.h e) hds hm hf
theorem ycW[c:Con p (qN P k pre post S l l' o)] (e:p) (hf:@Yi ⟨h⟩ (f o (m.set id (.live S Ja l')))) (hds:ds=pre++.own id Ja::post) (hm:m[id]?=some (.live S Ja l)):@Yi ⟨h⟩ (lg P k ds m f):=UR (c.h e) hds hm hf
end
def St.hd(s:St):D:=s.t.headD .dead
theorem yi{X β:Type}{h x:Hi}{k:Nat}{KF:Kf P k}{n w:Nat}{S:X->Ed}{d2:X->D}{m2:X->List Ent}{m:List Ent}{ds:List D}{f:D->List Ent->Prop}{o:Option X}{g:X->Option β}{r:β}
 (hS:∀z,ed (S z) ⟨[.dead],m⟩=⟨[d2 z],m2 z⟩) (hw:KF.F.ntmps=ds.length+w)
 (ha:∀z,o=some z->True->@Yi ⟨h⟩ (T P m.length KF.F.code (EI m.length KF.F.results ⟨[d2 z],m2 z⟩) ⟨ds++Tm.ds w [],m⟩))
 (hb:Wh n (∀z,g z=some r->@Yi ⟨x⟩ (f (d2 z) (m2 z)))) (e:o.bind g=some r):@Yi ⟨.i KF n w S h x⟩ (lg P k ds m f):=by
 obtain⟨z,h1,h2⟩:=zm e;exact Rk (Jv KF w hw (ha z h1 trivial)) (hb.h z h2)
theorem gi0{X:Type}{h x:Hi}{k j:Nat}{KF:Kf P j}{n w:Nat}{S:X->Ed}{m:List Ent}{ds:List D}{f:D->List Ent->Prop}(g:@Yi ⟨.i KF n w S h x⟩ (lg P k ds m f)):@Yi ⟨.i KF n w S h x⟩ (lg P k ds m f):=g
structure Ck (p q:Prop):Prop where
 h:p
 k:q
instance {N:Nat}{K:Exit->St->Prop}:StbC N (oL N K):=⟨by
 intro s S h k G w a hN hr;obtain⟨G1,h1,h2⟩:=xp h hN hr;obtain⟨s',G2,h3,h4,h5⟩:=k G1 w a h2.n h1;exact⟨s',G2,h3,h4,h2.trans h5⟩⟩
def qS(r:Option (List D)) (f:D->List Ent->Prop) (m:List Ent):Prop:=∃ds,r=some ds/\f (ym ds) m
theorem iM{ds:List D}{f:D->List Ent->Prop}{m:List Ent}:qS (some ds) f m=f (ym ds) m:=by simp[qS]
theorem yc{X β:Type}{h:Hi}{k:Nat}{KF:Kf P k}{w:Nat}{m:List Ent}{ds:List D}{f:D->List Ent->Prop}{o:Option X}{g:X->Option β}{r:β}{q:Prop}(k':q) (hw:KF.F.ntmps=ds.length+w)
 (ha:∀z,o=some z->Ck (g z=some r) q->@Yi ⟨h⟩ (T P m.length KF.F.code (oL m.length (Nx KF.F.results f)) ⟨ds++Tm.ds w [],m⟩)) (e:o.bind g=some r):@Yi ⟨.c KF w h⟩ (lg P k ds m f):=by
 obtain⟨z,h1,h2⟩:=zm e;refine Sy KF.ok KF.nm ?_;rw[hw,Sab,←pA];exact T.J0 (ha z h1 ⟨h2,k'⟩)
theorem gc0{h:Hi}{k j:Nat}{KF:Kf P j}{w:Nat}{m:List Ent}{ds:List D}{f:D->List Ent->Prop}(g:@Yi ⟨.c KF w h⟩ (lg P k ds m f)):@Yi ⟨.c KF w h⟩ (lg P k ds m f):=g
theorem gv{x:Hi}{p:Prop}(g:@Yi ⟨.v x⟩ p):@Yi ⟨.v x⟩ p:=g
theorem yvr{x:Hi}{M:Nat}{rs:List RV}{f:D->List Ent->Prop}{s:St}(g:@Yi ⟨x⟩ (qS (sd s rs) f s.m)):@Yi ⟨.v x⟩ (oL M (Nx rs f) .ret s):=by
 obtain⟨ds,h1,h2⟩:=g;exact oL.of (show Nx rs f .ret s from⟨ds,h1,h2⟩)
theorem yvn{x:Hi}{M:Nat}{rs:List RV}{f:D->List Ent->Prop}{s:St}(g:@Yi ⟨x⟩ (qS (sd s rs) f s.m)):@Yi ⟨.v x⟩ (oL M (Nx rs f) .normal s):=by
 obtain⟨ds,h1,h2⟩:=g;exact oL.of (show Nx rs f .normal s from⟨ds,h1,h2⟩)
theorem yno{α:Type}{r:α}{p:Prop}(h:none=some r):p:=nomatch h
theorem yrr{h:Hi}{K:Exit->St->Prop}{s:St}{N:Nat}(g:@Yi ⟨h⟩ (K .ret s)):@Yi ⟨h⟩ (Tm.T P N .ret K s):=T.ret g
theorem yrI{N:Nat}{h:Hi}{rs:List RV}{S s:St}(g:@Yi ⟨h⟩ (KH N (sd s rs) s.m S)):@Yi ⟨h⟩ (EI N rs S .ret s):=PI g
theorem ynI{N:Nat}{h:Hi}{rs:List RV}{S s:St}(g:@Yi ⟨h⟩ (KH N (sd s rs) s.m S)):@Yi ⟨h⟩ (EI N rs S .normal s):=mW g
class FrO (d:D):Prop where
 h:na d=true
instance {α:Type}{e:α->D} [Fr e] {x:α}:FrO (e x):=⟨Fr.h x⟩
instance {l:List D} [FrL l]:FrO (.tup l):=⟨FrL.h⟩
def dep:Nat->D->Bool
 |0,_=>false
 |k+1,.agg l=>l.all (dep k)
 |k+1,.tup l=>l.all (dep k)
 |_+1,.sl _ _=>true
 |k+1,.pt d=>dep k d
 |_+1,.v _=>true
 |_,_=>false
theorem au(m:List Ent):∀{k:Nat}{d:D},na d=true->dep k d=true->Cd k m d=d
 |0,_,_,h=>by grind[dep]
 |k+1,.agg l,h1,h2=>by
  simp only[dep,Oaa]at h2;simp only[na,il]at h1;simp only[Cd];congr 1;exact(zac λd hd=>au m (h1 d hd) (h2 d hd)).trans (nad _)
 |k+1,.tup l,h1,h2=>by
  simp only[dep,Oaa]at h2;simp only[na,il]at h1;simp only[Cd];congr 1;exact(zac λd hd=>au m (h1 d hd) (h2 d hd)).trans (nad _)
 |_+1,.sl _ l,h1,_=>by
  simp_all[na,Cd]
 |k+1,.pt d,h1,h2=>by
  simp only[dep]at h2;simp only[na]at h1;simp only[Cd,au m h1 h2]
 |_+1,.v _,_,_=>rfl
 |k+1,.own ..,_,h=>by grind[dep]
 |k+1,.view ..,_,h=>by grind[dep]
 |k+1,.ref ..,_,h=>by grind[dep]
 |k+1,.fn ..,_,h=>by grind[dep]
 |k+1,.mp ..,_,h=>by grind[dep]
 |k+1,.ifc ..,_,h=>by grind[dep]
 |k+1,.dead,_,h=>by grind[dep]
theorem TD{id Ja:Nat}:∀{l:List D},ia l=true->l.map (yB id Ja)=l
 |[],_=>rfl
 |d::l,h=>by
  simp only[ia,laa]at h;rw[Gaa,TD h.2];congr 1;have h1:=h.1;cases d<;>simp_all[yB,na]
def BR(P:Program) (k:Nat) (pre post:List D) (S:Nat) (l l':List D) (o:D):Prop:=ia pre=true/\ia post=true/\∀m id Ja,m[id]?=some (.live S Ja l)->CallT P k (pre++.ref id Ja 0 0::post) m λd m'=>d=o/\m'=m.set id (.live S Ja l')
theorem BR.of{k:Nat}{pre post:List D}{S:Nat}{l l':List D}{o:D}(n:Nat) (K:Kf P k) (h:T P 1 K.F.code (EI 1 K.F.results ⟨[o],[.live S 0 l']⟩) ⟨(pre++.ref 0 0 0 0::post)++Tm.ds n [],[.live S 0 l]⟩)
 (hpre:ia pre=true:=by exact FrL.h) (hpost:ia post=true:=by exact FrL.h) (hl:ia l=true:=by exact FrL.h) (ho:na o=true:=by exact FrO.h) (hl':ia l'=true:=by exact FrL.h) (hd:dep 8 o=true:=by rfl) (hd':l'.all (dep 8)=true:=by rfl)
 (hn:K.F.ntmps=(pre++.ref 0 0 0 0::post).length+n:=by rfl):BR P k pre post S l l' o:=by
 refine⟨hpre,hpost,λm id Ja hid=>?_⟩;have h1:=Jv K n hn (m:=[.live S 0 l]) (m2:=[.live S 0 l']) (d2:=o) h;have e1:(pre++.ref id Ja 0 0::post).map (yB id Ja)=pre++.ref 0 0 0 0::post:=by
  simp_all[yB,TD]
 refine(NN hid hl (m1:=[.live S 0 l']) rfl (by rw[e1];omega)).mono ?_;rintro d m' ⟨rfl,rfl⟩;refine⟨au _ ho hd,?_⟩;congr 2;rw[Oaa]at hd';exact(zac λd hd=>au _ (il.1 hl' d hd) (hd' d hd)).trans (nad _)
theorem ycE{pre post:List D}{S id Ja k:Nat}{l l' ds:List D}{o:D}{m:List Ent}{f:D->List Ent->Prop}{h:Hi}{p:Prop} [c:Con p (BR P k pre post S l l' o)] (e:p) (hf:@Yi ⟨h⟩ (f o (m.set id (.live S Ja l')))) (hds:ds=pre++.ref id Ja 0 0::post) (hm:m[id]?=some (.live S Ja l)):@Yi ⟨h⟩ (lg P k ds m f):=by
 subst hds;exact Rk ((c.h e).2.2 m id Ja hm) hf
theorem gce{h:Hi}{k:FuncId}{ds:List D}{ids:List Nat}{fp:List (List Nat)}{p:List Nat}{x:Nat}{f:D->Ent->Prop}{s:St}(g:@Yi ⟨h⟩ (kF P k ds ids fp p x f s)):@Yi ⟨h⟩ (kF P k ds ids fp p x f s):=g
theorem ywE{pre post:List D}{S Ja k:Nat}{l l' ds:List D}{o:D}{h:Hi}{q:Prop}{ids:List Nat}{fp:List (List Nat)}{p:List Nat}{x:Nat}{f:D->Ent->Prop}{s:St} [c:Con q (BR P k pre post S l l' o)] (e:q) (hf:@Yi ⟨h⟩ (f o (.live S Ja l')))
 (hds:ds=pre++.ref x Ja 0 0::post) (hm:s.m[x]?=some (.live S Ja l)) (hx:(ids.elem x&&Ly fp ids p)=true) (hi:ids=[x]):@Yi ⟨h⟩ (kF P k ds ids fp p x f s):=by
 subst hds;subst hi;have hlt:x<s.m.length:=(yaa.1 hm).1;refine⟨hx,o,_,⟨λid hid=>by simp_all,λm hmm=>?_⟩,hf⟩;exact(c.h e).2.2 m x Ja (by simp_all)
theorem ydp{h:Hi}{N:Nat}{q:Nat}{l:List RI}{K:Exit->St->Prop}{s:St}{ps:List (List Nat)}{pl:List (Option Nat)}(hm:P.follows .mixedOrders=true) (hps:ps=Gv q) (hcl:Hx pl l=true) (hpl:Nn s.m pl=true) (g:@Yi ⟨h⟩ (cg P pl ps q l (K .normal) [] s)):@Yi ⟨.g ps pl h⟩ (Tm.T P N (.draw q l) K s):=T.dp hm ps pl hps hcl hpl g
def vN(m:List Ent):D->D->Prop
 |.agg a,.agg b=>WA (Lq m) a b
 |d,e=>Lq m d e
def BI(ids:List Nat) (ds:List D):Bool:=ds.all λd=>match d with|.agg a=>DB ids a|d=>DB ids [d]
theorem MK{m m':List Ent}{ids:List Nat}(hm:∀id∈ids,m'[id]?=m[id]?):∀{a b:List D},WA (vN m) a b->BI ids a=true->Sbs [] m' a b
 |[],[],_,_=>.nil
 |d::l,e::r,h,ht=>by
  simp only[BI,Qab,laa]at ht;have ih:=MK hm h.2 (by grind[BI]);have h1:=h.1;have ht1:=ht.1;unfold vN at h1;split at h1
  .exact .agg (oC hm h1 ht1) ih
  .rename_i hne;have ht2:DB ids [d]=true:=by
    grind[DB,Od]
   exact Sbs.app (a:=[d]) (b:=[e]) (oC hm ⟨h1,trivial⟩ ht2) ih
 |[],_::_,h,_=>h.elim
 |_::_,[],h,_=>h.elim
theorem LN{k:Nat}{ids:List Nat}{ds ds':List D}{o:D}{R:St->Prop}{s:St}{dst:Option Tmp}(h:Den P k ds' o) (hf:R (s.put dst o)) (hfl:flat o=true) (hi:(ids.all λi=>decide (i<s.m.length))=true) (ht:BI ids ds=true) (hs:WA (vN s.m) ds ds'):Nt P k ds ids R s dst:=by
 refine⟨o,⟨λid hid=>?_,λm hm=>?_⟩,hf⟩
 .simp_all
 .exact Qx h (MK hm hs ht) hfl ⟨rfl,rfl⟩
theorem ylw{k:Nat}{h:Hi}{s:St}{p:Prop}{ids:List Nat}{ds ds':List D}{o:D}{R:St->Prop}{dst:Option Tmp} [c:Con p (Den P k ds' o)] (e:p) (hf:@Yi ⟨h⟩ (R (s.put dst o))) (hfl:flat o=true) (hi:(ids.all λi=>decide (i<s.m.length))=true) (ht:BI ids ds=true) (hs:WA (vN s.m) ds ds'):@Yi ⟨h⟩ (Nt P k ds ids R s dst):=LN (c.h e) hf hfl hi ht hs
section
variable {m:List Ent} {S x y lo n s:Nat} {a b:List D} {e:D}
theorem lP:vN m (.agg a) (.agg b)=WA (Lq m) a b:=daa rfl rfl
theorem mP:vN m (.own x y) (.sl S b)=Lq m (.own x y) (.sl S b):=daa rfl rfl
theorem GK:vN m (.view x y lo n) (.sl S b)=Lq m (.view x y lo n) (.sl S b):=daa rfl rfl
theorem nP{z:Nat}:vN m (.ref x y z s) (.pt e)=Lq m (.ref x y z s) (.pt e):=daa rfl rfl
theorem i7{z:Value}:vN m (.v z) e=Lq m (.v z) e:=by cases e<;>rfl
theorem TV{z:List D}:vN m (.sl S z) e=Lq m (.sl S z) e:=by cases e<;>rfl
theorem SV{z:D}:vN m (.pt z) e=Lq m (.pt z) e:=by cases e<;>rfl
theorem zw:type_of% (And.intro (And.intro (And.intro @lP @mP) (And.intro @GK @nP)) (And.intro (And.intro @i7 @TV) @SV)):=And.intro (And.intro (And.intro @lP @mP) (And.intro @GK @nP)) (And.intro (And.intro @i7 @TV) @SV)
end
def xB(id Ja:Nat) (d:D):D:=
 match d with
 |.own i v=>bif Jac i id&&Jac v Ja then .own 0 0 else .dead
 |d=>bif na d then d else .dead
theorem VM{G G':Gh}{w:World}{id Ja:Nat}(hle:SubF G w G' w) (hr:∀u,VRel G w (.own id Ja) u->VRel G' w (.own 0 0) u) {d:D}{u:Value}(h:VRel G w d u):VRel G' w (xB id Ja d) u:=by
 unfold xB;split
 .rename_i i v;cases hb:(Jac i id&&Jac v Ja)
  .simp[VRel]
  simp_all
 .cases hf:na d
  .simp[VRel]
  .exact h.free hle hf
theorem SD{id Ja:Nat}:∀{l:List D},ia l=true->l.map (xB id Ja)=l
 |[],_=>rfl
 |d::l,h=>by
  simp only[ia,laa]at h;rw[Gaa,SD h.2];congr 1;have h1:=h.1;cases d<;>simp_all[xB,na]
section
variable {P:Program}
theorem MN{k id S Ja:Nat}{l l1:List D}{m m1:List Ent}{ds:List D}{d1:D}
 (hid:m[id]?=some (.live S Ja l)) (hl:ia l=true) (hm1:m1[0]?=some (.live S 0 l1))
 (h:CallT P k (ds.map (xB id Ja)) [.live S 0 l] λd m'=>d=d1/\m'=m1) :
 CallT P k ds m λd m'=>d=Cd 8 (m1.set 0 .gone) d1/\m'=m.set id (.live S Ja (l1.map (Cd 8 (m1.set 0 .gone)))):=by
 refine⟨h.1,λG w vs hv hi=>?_⟩;have hlen:id<m.length:=(yaa.1 hid).1;obtain⟨eV,eS,eN,eC,eB⟩:=hi.ent id _ hid;have hc0:SubF G w ⟨G.F,1,λ_=>G.B id,λ_=>0,λ_=>G.S id,λ_=>G.N id,λ_=>G.C id⟩ w:=⟨λ_ h=>h,λ_ _=>rfl⟩;have hv':=tn (G':=⟨G.F,1,λ_=>G.B id,λ_=>0,λ_=>G.S id,λ_=>G.N id,λ_=>G.C id⟩) (f:=xB id Ja) (λd u hu=>VM hc0 (λu hu=>by
  simp only[VRel]at hu⊢
  grind) hu) hv
 have hic:Inv ⟨G.F,1,λ_=>G.B id,λ_=>0,λ_=>G.S id,λ_=>G.N id,λ_=>G.C id⟩ w [.live S 0 l]:=by
  refine⟨rfl,hi.F,?_,?_,hi.gl.bare λ_ h=>h⟩
  .intro i e he
   cases i with
   |zero=>
    simp at he;subst he;refine⟨rfl,eS,eN,eC,?_⟩;rcases eB with h|⟨b,cs,T,h1,h2,h3,h4,h5⟩
    .simp_all
    .exact .inr ⟨b,cs,T,h1,h2,h3,h4,Sa.free hc0 rfl hl h5⟩
   |succ i=>simp at he
  grind
 have own0:∀b,Qc ⟨G.F,1,λ_=>G.B id,λ_=>0,λ_=>G.S id,λ_=>G.N id,λ_=>G.C id⟩ [.live S 0 l] b->G.B id=some b:=by
  rintro b ⟨i,e,he,-,hB⟩;omega
 refine(h.2 _ w vs hv' hic).mono ?_;rintro e w' ⟨v,d,m',G',rfl,⟨rfl,rfl⟩,hvd,hi',hs'⟩;obtain⟨fV,fS,fN,fC,fB⟩:=hi'.ent 0 _ hm1;have hlen1:0<m'.length:=(yaa.1 hm1).1;have live1:(Ent.live S Ja l).isLive=true:=rfl;obtain⟨sB,sS,sN,sC⟩:G'.B 0=G.B id/\G'.S 0=G.S id/\G'.N 0=G.N id/\G'.C 0=G.C id:=by
  rcases hs'.le.id 0 (sac 0)with⟨_,h1,h2,h3,h4⟩|h
  all_goals simp_all
 have hget1:∀i x,(m'.set 0 .gone)[i]?=some x->(i=0/\x=.gone)\/(i≠0/\m'[i]?=some x):=by
  grind
 have hi2:Inv G' w' (m'.set 0 .gone):=by
  refine⟨by simpa using hi'.n,hi'.F,?_,?_,hi'.gl⟩
  .intro i x hx;rcases hget1 i x hx with⟨rfl,rfl⟩|⟨h0,hx⟩
   .trivial
   .exact hi'.ent i x hx
  .intro i j x y hx hy lx ly b hb hb';rcases hget1 i x hx with⟨rfl,rfl⟩|⟨h0,hx⟩
   .cases lx
   .rcases hget1 j y hy with⟨rfl,rfl⟩|⟨h1,hy⟩
    .cases ly
    .exact hi'.apart i j x y hx hy lx ly b hb hb'
 have out0:∀b,Qc G' (m'.set 0 .gone) b->Qc G' m' b/\G'.B 0≠some b:=by
  rintro b ⟨i,x,hx,lx,hB⟩;rcases hget1 i x hx with⟨rfl,rfl⟩|⟨h0,hx⟩
  .cases lx
  .exact⟨⟨i,x,hx,lx,hB⟩,λh=>h0 (hi'.apart i 0 x _ hx hm1 lx rfl b hB h)⟩
 have hF':∀b,(G'.F b\/Qc G' (m'.set 0 .gone) b)->b<w'.heap.size:=by
  rintro b (hb|hb)
  .exact hi'.F b hb
  .exact(Qc.lt hi2 hb).1
 have hrel:∀d u,VRel G' w' d u->VRel ⟨λb=>G'.F b\/Qc G' (m'.set 0 .gone) b,G.n,G.B,G.V,G.S,G.N,G.C⟩ w' (Cd 8 (m'.set 0 .gone) d) u:=by
  intro d u hu;have h0:=bD hi2 8 d u hu;refine VRel.free ?_ (bu _ _ _) h0;exact⟨λ_ h=>h,λ_ _=>rfl⟩
 have hle:Le G w ⟨λb=>G'.F b\/Qc G' (m'.set 0 .gone) b,G.n,G.B,G.V,G.S,G.N,G.C⟩ w':=
  ⟨λb hb=>.inl (hs'.le.F b hb),λb hb=>hs'.le.heap b hb,oaa _,λi _=>.inl (by simp)⟩
 have olt:∀i x,m[i]?=some x->x.isLive=true->∀b,G.B i=some b->b<w.heap.size/\¬G.F b:=λi x hx hl b hb=>(hi.ent i x hx).lt hl hb;have notO:∀i x,m[i]?=some x->x.isLive=true->i≠id->∀b,G.B i=some b->G.B id≠some b:=λi x hx hlx hne b hb hB=>hne (hi.apart i id x _ hx hid hlx live1 b hb hB);have hget:∀i x,(m.set id (.live S Ja (l1.map (Cd 8 (m'.set 0 .gone)))))[i]?=some x->(m[i]?=some x/\i≠id)\/(i=id/\x=.live S Ja (l1.map (Cd 8 (m'.set 0 .gone)))):=by
  grind
 refine⟨v,_,_,⟨λb=>G'.F b\/Qc G' (m'.set 0 .gone) b,G.n,G.B,G.V,G.S,G.N,G.C⟩,rfl,⟨rfl,rfl⟩,hrel _ _ hvd,⟨by simp[hi.n],hF',?_,?_,hi'.gl.bare λ_ h=>.inl h⟩,⟨hle,hs'.os,hs'.tape,hs'.output,hs'.size,?_,?_,?_⟩⟩
 .intro i x hx;rcases hget i x hx with⟨h1,h2⟩|⟨rfl,rfl⟩
  .by_cases hlx:x.isLive=true
   .refine(hi.ent i x h1).mono hle (by simp) (λb hb=>?_) (λb hb _ hF=>?_)
    .exact hs'.keep b (olt i x h1 hlx b hb).1 λho=>notO i x h1 hlx h2 b hb (own0 b ho)
    .rcases hF with hF|hF
     .rcases hs'.newF b (olt i x h1 hlx b hb).1 hF with h|h
      all_goals grind
     .exact(notO i x h1 hlx h2 b hb (own0 b (hs'.newB b (olt i x h1 hlx b hb).1 (out0 b hF).1))).elim
   .cases x with
    |gone=>trivial
    |_=>grind[Ent.isLive]
  .refine⟨eV,eS,by simp_all,by simp_all,?_⟩
   grind[Hn]
 .intro i j x y hx hy lx ly b hb hb';rcases hget i x hx with⟨h1,h2⟩|⟨rfl,rfl⟩<;>rcases hget j y hy with⟨h3,h4⟩|⟨rfl,rfl⟩
  .exact hi.apart i j x y h1 h3 lx ly b hb hb'
  all_goals grind
 .intro b hb hno;exact hs'.keep b hb λho=>hno ⟨id,_,hid,live1,own0 b ho⟩
 .intro b hb hF;rcases hF with hF|hF
  .rcases hs'.newF b hb hF with h|h
   all_goals grind
  .exact .inr ⟨id,_,hid,live1,own0 b (hs'.newB b hb (out0 b hF).1)⟩
 .rintro b hb ⟨i,x,hx,lx,hB⟩;rcases hget i x hx with⟨h1,h2⟩|⟨rfl,rfl⟩
  .exact⟨i,x,h1,lx,hB⟩
  .exact⟨i,_,hid,live1,hB⟩
end
def pL(P:Program) (k:Nat) (pre post:List D) (S:Nat) (l:List D) (o:D):Prop:=ia pre=true/\ia post=true/\∀m id Ja,m[id]?=some (.live S Ja l)->CallT P k (pre++.own id Ja::post) m λd m'=>d=o/\m'=m
theorem pL.of{P:Program}{k:Nat}{pre post:List D}{S:Nat}{l:List D}{o:D}(n:Nat) (K:Kf P k) (h:T P 1 K.F.code (EI 1 K.F.results ⟨[o],[.live S 0 l]⟩) ⟨(pre++.own 0 0::post)++Tm.ds n [],[.live S 0 l]⟩)
 (hpre:ia pre=true:=by exact FrL.h) (hpost:ia post=true:=by exact FrL.h) (hl:ia l=true:=by exact FrL.h) (ho:na o=true:=by exact FrO.h) (hd:dep 8 o=true:=by rfl) (hd':l.all (dep 8)=true:=by rfl)
 (hn:K.F.ntmps=(pre++.own 0 0::post).length+n:=by rfl):pL P k pre post S l o:=by
 refine⟨hpre,hpost,λm id Ja hid=>?_⟩;have h1:=Jv K n hn (m:=[.live S 0 l]) (m2:=[.live S 0 l]) (d2:=o) h;have e1:(pre++.own id Ja::post).map (xB id Ja)=pre++.own 0 0::post:=by
  simp_all[xB,SD]
 refine(MN hid hl (m1:=[.live S 0 l]) rfl (by rw[e1];exact h1)).mono ?_;rintro d m' ⟨rfl,rfl⟩;refine⟨au _ ho hd,?_⟩;have e2:l.map (Cd 8 (([Ent.live S 0 l]:List Ent).set 0 .gone))=l:=by
  exact(zac λd hd=>au _ (il.1 hl d hd) (Oaa.1 hd' d hd)).trans (nad _)
 rw[e2];obtain⟨hlt,e⟩:=yaa.1 hid;rw[←e];exact List.set_getElem_self hlt
theorem U0{α:Type}{e:α->D}(h:∀x,dep 8 (e x)=true) (l:List α):(l.map e).all (dep 8)=true:=by simp[h]
theorem yln{P:Program}{pre post:List D}{S Ja id k:Nat}{l ds:List D}{o:D}{h:Hi}{q:Prop}{ids:List Nat}{R:St->Prop}{s:St}{dst:Option Tmp} [c:Con q (pL P k pre post S l o)] (e:q) (hf:@Yi ⟨h⟩ (R (s.put dst o)))
 (hds:ds=pre++.own id Ja::post) (hm:s.m[id]?=some (.live S Ja l)) (hi:ids=[id]):@Yi ⟨h⟩ (Nt P k ds ids R s dst):=by
 subst hds;subst hi;have hlt:id<s.m.length:=(yaa.1 hm).1;exact⟨o,⟨λi hi=>by simp_all,λm hmm=>(c.h e).2.2 m id Ja (by rw[hmm id (by simp),hm])⟩,hf⟩
end Go.Tm
