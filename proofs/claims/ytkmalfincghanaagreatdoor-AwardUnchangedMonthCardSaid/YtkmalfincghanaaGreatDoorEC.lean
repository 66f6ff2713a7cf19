/-
  The engine: a part of the proof that trees of values are carried along by the program: no condition.
-/
import Derived.Test.YtkmalfincghanaaGreatDoorEB
import Derived.ProofKit
import Derived.OpenShut
import Derived.WideShapes
import Derived.Lib.LaidTab
import Derived.SizedLaws
import Derived.Sort.Row
import Derived.Sort.Grow
import Derived.KernelRfl
open Array renaming getElem?_append_left→yac,getElem?_eq_getElem→Vaa,getElem?_eq_none→ead,getElem?_modify→iad
open Bool renaming and_eq_true→paa,and_self→Xaa,and_true→Gaa,false_eq_true→naa,true_and→Oab
open Classical renaming not_not→saa
open Eq renaming trans→kaa
open List renaming all_cons→tac,all_eq_true→Raa,append_nil→Naa,cons_append→Yaa,contains_iff_mem→xaa,drop_drop→Xad,drop_zero→lac,eq_nil_of_length_eq_zero→Eaa,ext_getElem?→Tac,foldlM→vaf,getD_cons_succ→vab,getD_cons_zero→pab,getD_eq_getElem?_getD→uaa,getElem?_append_left→Iaa,getElem?_append_right→rab,getElem?_cons_succ→Uab,getElem?_cons_zero→Waa,getElem?_eq_getElem→iaa,getElem?_eq_none→Saa,getElem?_eq_some_iff→Caa,getElem?_map→Dab,getElem?_set→fac,getElem_mem→raa,length_cons→Daa,length_map→gab,length_nil→Hab,map_append→Cab,map_congr_left→nac,map_cons→eab,map_drop→maf,map_id→Vae,map_nil→Xac,map_take→laf,mem_append→Jaa,mem_cons→fab,mem_map_of_mem→yae,mem_of_getElem?→kab,nil_append→sab,replicate→maa,replicate_succ→bac,replicate_zero→rad,take_add→kaf,take_left→vae,take_length→dab,take_of_length_le→kac
open Nat renaming add_comm→Eab,add_sub_cancel_left→Kac,add_zero→Jab,le_refl→yaa,lt_or_ge→Taa,lt_succ_self→kae,not_lt_zero→Lad,sub_zero→jad,succ_mul→Ead,zero_add→Xab,zero_le→Bab,zero_lt_succ→Pae
open Option renaming bind_eq_some_iff→rac,map_eq_some_iff→laa,map_some→Vab
open Option.some renaming inj→Uaa,injEq→zaa
open Prod renaming fst→Wad
open Prod.mk renaming injEq→Aaa
set_option linter.all false
namespace Go.Tm
section
variable {P:Program} {FT:Nat→Option (Fun×Nat)} {O:Nat→List D→Option D}
end
end Go.Tm
namespace Go.Tm
variable {α:Type}
end Go.Tm
namespace Go.Tm
noncomputable section
def Fz(k:IntKind):Int:=
 match k with
 |.i8=>256|.i16=>65536|.i32=>4294967296|.i64=>18446744073709551616
 |.u8=>256|.u16=>65536|.u32=>4294967296|.u64=>18446744073709551616
theorem RH(k:IntKind):Fz k=2 ^ k.bits:=by cases k<;>rfl
def oB(n h m:Int):Int:=bif decide (n % m≥h)then n % m-m else n % m
def ca(k:IntKind) (n:Int):Int:=
 match k with
 |.i8=>oB n 128 256
 |.i16=>oB n 32768 65536
 |.i32=>oB n 2147483648 4294967296
 |.i64=>oB n 9223372036854775808 18446744073709551616
 |.u8=>n % 256
 |.u16=>n % 65536
 |.u32=>n % 4294967296
 |.u64=>n % 18446744073709551616
theorem Qq(k:IntKind) (n:Int):ca k n=k.wrap n:=by
 cases k<;>simp[ca,oB,IntKind.wrap,IntKind.bits,IntKind.signed,cond_eq_ite]
def gy(op:Nat→Nat→Nat) (k:IntKind) (x y:Int):Value:=.int k (ca k (op (x % Fz k).toNat (y % Fz k).toNat:Nat))
theorem ZK(k:IntKind) (x:Int):(BitVec.ofInt k.bits x).toNat=(x % Fz k).toNat:=by
 rw[BitVec.toNat_ofInt,RH];norm_cast
def xg(op:BinOp) (j:IntKind) (a:Int) (k:IntKind) (b:Int):Option Value:=
 match op with
 |.add=>bif decide (j=k)then some (.int j (ca j (a+b)))else none
 |.sub=>bif decide (j=k)then some (.int j (ca j (a-b)))else none
 |.mul=>bif decide (j=k)then some (.int j (ca j (a*b)))else none
 |.eql=>bif decide (j=k)then some (.bool (a==b))else none
 |.neq=>bif decide (j=k)then some (.bool (a !=b))else none
 |.lss=>bif decide (j=k)then some (.bool (decide (a<b)))else none
 |.leq=>bif decide (j=k)then some (.bool (decide (a≤b)))else none
 |.gtr=>bif decide (j=k)then some (.bool (decide (b<a)))else none
 |.geq=>bif decide (j=k)then some (.bool (decide (b≤a)))else none
 |.and=>bif decide (j=k)then some (gy Nat.land j a b)else none
 |.or=>bif decide (j=k)then some (gy Nat.lor j a b)else none
 |.xor=>bif decide (j=k)then some (gy Nat.xor j a b)else none
 |.quo=>bif decide (j=k)&&!decide (b=0)then some (.int j (ca j (a.tdiv b)))else none
 |.rem=>bif decide (j=k)&&!decide (b=0)then some (.int j (a.tmod b))else none
 |.shl=>bif decide (b<0)then none else some (.int j (ca j (a*((2 ^ (min b.toNat j.bits):Nat):Int))))
 |.shr=>bif decide (b<0)then none else some (.int j (a.fdiv ((2 ^ (min b.toNat j.bits):Nat):Int)))
 |op=>kf (binOp op 0 (.int j a) (.int k b))
theorem uS(op:BinOp) (j:IntKind) (a:Int) (k:IntKind) (b:Int):xg op j a k b=kf (binOp op 0 (.int j a) (.int k b)):=by
 have hst:∀{α:Type} (x:String),kf (stuck x:Sem α)=none:=fun _=>rfl;have hp:∀{α:Type} (x:α),kf (pure x:Sem α)=some x:=fun _=>rfl;have hrt:∀{α:Type} x,kf (runtimePanic x:Sem α)=none:=fun _=>rfl;cases op
 case shl=>
  simp only[xg,binOp,Op.shift,cond_eq_ite,decide_eq_true_eq];split<;>simp[hst,hp,hrt,Qq]
 case shr=>
  simp only[xg,binOp,Op.shift,cond_eq_ite,decide_eq_true_eq];split<;>simp[hst,hp,hrt]
 all_goals
  by_cases hjk:j=k
  ·subst hjk;simp[xg,binOp,Op.intArith,Op.intCmp,Op.intBits,Op.intDiv,hst,hp,hrt,Qq,gy,ZK,RH];(try rfl);(try (split<;>simp[hst,hp,hrt,Qq, *]))
  ·simp[xg,binOp,hjk,hst]
section
variable {FT:Nat→Option (Fun×Nat)} {O:Nat→List D→Option D}
variable {P:Program}
end
end
end Go.Tm
namespace Go.Tm
variable {P:Program} {N:Nat}
def ym(r:Option (D×List Ent)) (f:D→List Ent→Prop):Prop:=
 match r with
 |some p=>f p.1 p.2
 |none=>False
@[congr] theorem oV{r r':Option (D×List Ent)} {f:D→List Ent→Prop} (h:r=r'):ym r f=ym r' f:=by rw[h]
theorem lK(d:D) (m:List Ent) (f:D→List Ent→Prop):ym (some (d,m)) f=f d m:=kaa rfl rfl
theorem fj(r:Option (D×List Ent)) (f:D→List Ent→Prop):ym r f↔∃d m',r=some (d,m')∧f d m':=by
 cases r with
 |none=>simp[ym]
 |some p=>
  obtain⟨d,m⟩:=p;simp only[ym];exact⟨fun h=>⟨d,m,rfl,h⟩,fun⟨_,_,h1,h2⟩=>by injection h1 with h1;injection h1 with h1 h3;rw[h1,h3];exact h2⟩
def qe(P:Program) (k:Nat) (ds:List D) (m:List Ent) (f:D→List Ent→Prop):Prop:=CallT P k ds m f
@[congr] theorem PU{k k':Nat} {ds ds':List D} {m m':List Ent} {f:D→List Ent→Prop} (h1:k=k') (h2:ds=ds') (h3:m=m'):qe P k ds m f=qe P k' ds' m' f:=by rw[h1,h2,h3]
theorem jq{k:Nat}{ds:List D}{m:List Ent}{R f:D→List Ent→Prop}(h:CallT P k ds m R) (hR:∀d m',R d m'→f d m'):qe P k ds m f:=h.mono hR
theorem Ub{k:Nat}{ds:List D}{m m1:List Ent}{d1:D}{f:D→List Ent→Prop}(h:CallT P k ds m fun d m'=>d=d1∧m'=m1) (hf:f d1 m1):qe P k ds m f:=
 h.mono fun d m' ⟨h1,h2⟩=>by rw[h1,h2];exact hf
theorem ra.cons{d e:D}{l r:List D}(h1:Sub d e) (h2:ra l r):ra (d::l) (e::r):=by
 simp only[ra];exact⟨e,r,rfl,h1,h2⟩
theorem Sub.Pa(d:D):Sub d .dead:=by cases d<;>simp[Sub]
end Go.Tm
namespace Go.Tm
variable {P:Program} {N:Nat}
def gP(p Y N:Prop):Prop:=(p→Y)∧(¬p→N)
theorem J7{Y N:Prop}:gP True Y N=Y:=by simp[gP]
theorem V5{Y N:Prop}:gP False Y N=N:=by simp[gP]
@[congr] theorem V2{p p' Y N:Prop} (h:p=p'):gP p Y N=gP p' Y N:=by rw[h]
theorem gP.mk{p Y N:Prop}(h1:p→Y) (h2:¬p→N):gP p Y N:=⟨h1,h2⟩
def Wr(s:St) (g:Option (Tmp×Bool)) (b:Bool):St:=
 match g with
 |none=>s
 |some (t,_)=>
  match s.t.getD t .dead with
  |.v (.bool _)=>{ s with t:=s.t.set t (.v (.bool b)) }
  |_=>s
theorem Nv{l:List D}{t:Nat}{d:D}(h:l.getD t .dead=d) (hd:d≠.dead):l.set t d=l:=by
 apply Tac;intro j;rw[fac];split
 ·rename_i hj;subst hj;split
  ·rename_i hlt;rw[uaa,iaa hlt,Option.getD_some]at h;rw[iaa hlt,h]
  ·rename_i hlt;rw[uaa,Saa (by omega)]at h;exact absurd h.symm hd
 ·rfl
theorem mI{s:St}{g:Option (Tmp×Bool)}{c b:Bool}(hg:gate s g=some (some (c,b))) (e:c=b):Wr s g b=s:=by
 unfold Wr
 cases g with
 |none=>rfl
 |some p=>
  obtain⟨t,b'⟩:=p;simp only;split
  ·rename_i x hx;simp only[gate,hx]at hg;injection hg with hg;injection hg with hg;injection hg with h1 h2;subst h1 h2;subst e;rw[Nv hx (by simp)]
  ·rfl
theorem YP{s:St}{g:Option (Tmp×Bool)}{c b:Bool}(hg:gate s g=some (some (c,b))) (e:c≠b):Wr s g (!b)=s:=by
 unfold Wr
 cases g with
 |none=>rfl
 |some p=>
  obtain⟨t,b'⟩:=p;simp only;split
  ·rename_i x hx;simp only[gate,hx]at hg;injection hg with hg;injection hg with hg;injection hg with h1 h2;subst h1 h2;have:x = !b':=by cases x<;>cases b'<;>simp_all
   subst this;rw[Nv hx (by simp)]
  ·rfl
def KO(R:St→Prop) (s:St) (dst:Option Tmp) (d:D) (m':List Ent):Prop:=R ({ s with m:=m' }.put dst d)
def Wf(P:Program):List RI→(St→Prop)→St→Prop
 |[],K,s=>K s
 |.op dst g i::l,K,s=>
  match gate s g with
  |none=>False
  |some none=>ym (ea s i) (KO (Wf P l K) s dst)
  |some (some (c,b))=>gP (c=b) (ym (ea (Wr s g b) i) (KO (Wf P l K) (Wr s g b) dst)) (Wf P l K ((Wr s g (!b)).put dst (.v undef)))
 |.call dst g f args::l,K,s=>
  match s.ec f with
  |.fn k first caps=>
   match gate s g with
   |none=>False
   |some none=>qe P k (first++args.map s.ev++caps) s.m (KO (Wf P l K) s dst)
   |some (some (c,b))=>gP (c=b) (qe P k (first++args.map (Wr s g b).ev++caps) s.m (KO (Wf P l K) (Wr s g b) dst)) (Wf P l K ((Wr s g (!b)).put dst (.v undef)))
  |_=>False
theorem Un:∀{l:List RI}{K:St→Prop}{s:St},Wf P l K s→Fh P l K s
 |[],K,s,h=>h
 |.op dst g i::l,K,s,h=>by
  simp only[Wf]at h;simp only[Fh];split at h
  ·exact h.elim
  ·rename_i hg;rw[hg];obtain⟨d,m',h1,h2⟩:=(fj _ _).1 h;exact⟨d,m',h1,Un h2⟩
  ·rename_i c b hg;rw[hg];refine⟨fun e=>?_,fun e=>?_⟩
   ·have h:=h.1 e;rw[mI hg e]at h;obtain⟨d,m',h1,h2⟩:=(fj _ _).1 h;exact⟨d,m',h1,Un h2⟩
   ·have h:=h.2 e;rw[YP hg e]at h;exact Un h
 |.call dst g f args::l,K,s,h=>by
  simp only[Wf]at h;simp only[Fh];split at h
  ·rename_i k first caps hf
   rw[hf];split at h
   ·exact h.elim
   ·rename_i hg;rw[hg];exact h.mono fun _ _ h2=>Un h2
   ·rename_i c b hg;rw[hg];refine⟨fun e=>?_,fun e=>?_⟩
    ·have h:=h.1 e;rw[mI hg e]at h;exact h.mono fun _ _ h2=>Un h2
    ·have h:=h.2 e;rw[YP hg e]at h;exact Un h
  ·exact h.elim
def Cr(P:Program):Nat→List RI→(St→Prop)→St→Prop
 |0,l,K,s=>Wf P l K s
 |_+1,[],_,_=>False
 |q+1,.op dst g i::l,K,s=>
  match gate s g with
  |none=>False
  |some none=>ym (ea s i) (KO (Cr P q l K) s dst)
  |some (some (c,b))=>gP (c=b) (ym (ea s i) (KO (Cr P q l K) s dst)) (Cr P q l K (s.put dst (.v undef)))
 |q+1,.call dst g f args::l,K,s=>
  match s.cv f with
  |.fn k first caps=>
   match gate s g with
   |none=>False
   |some none=>∃d,(∀m,CallT P k (first++args.map s.ev++caps) m fun d' m'=>d'=d∧m'=m)∧Cr P q l K (s.put dst d)
   |some (some (c,b))=>(c=b→∃d,(∀m,CallT P k (first++args.map s.ev++caps) m fun d' m'=>d'=d∧m'=m)∧Cr P q l K (s.put dst d))∧(c≠b→Cr P q l K (s.put dst (.v undef)))
  |_=>False
theorem Py:∀{q:Nat}{l:List RI}{K:St→Prop}{s:St},Cr P q l K s→uE P q l K s
 |0,l,K,s,h=>by simp only[Cr]at h;simp only[uE];exact Un h
 |_+1,[],K,s,h=>by simp only[Cr]at h
 |q+1,.op dst g i::l,K,s,h=>by
  simp only[Cr]at h;simp only[uE];split at h
  ·exact h.elim
  ·rename_i hg;rw[hg];obtain⟨d,m',h1,h2⟩:=(fj _ _).1 h;exact⟨d,m',h1,Py h2⟩
  ·rename_i c b hg;rw[hg];refine⟨fun e=>?_,fun e=>Py (h.2 e)⟩;obtain⟨d,m',h1,h2⟩:=(fj _ _).1 (h.1 e);exact⟨d,m',h1,Py h2⟩
 |q+1,.call dst g f args::l,K,s,h=>by
  simp only[Cr]at h;simp only[uE];split at h
  ·rename_i k first caps hf
   rw[hf];split at h
   ·exact h.elim
   ·rename_i hg;rw[hg];obtain⟨d,h1,h2⟩:=h;exact⟨d,h1,Py h2⟩
   ·rename_i c b hg;rw[hg];refine⟨fun e=>?_,fun e=>Py (h.2 e)⟩;obtain⟨d,h1,h2⟩:=h.1 e;exact⟨d,h1,Py h2⟩
  ·exact h.elim
def C.ry:C→Bool
 |.loop _=>true
 |.any ..=>true
 |.seq a b=>a.ry || b.ry
 |.cond _ a b=>a.ry || b.ry
 |.block _ a=>a.ry
 |_=>false
def C.Fi:C→Bool
 |.loop _=>true
 |_=>false
theorem vK{f:FuncId}{ds ds':List D}{m:List Ent}{R:D→List Ent→Prop}(hs:ra ds ds') (h:CallT P f ds' m R):CallT P f ds m R:=
 ⟨h.1,fun G w vs hv hi=>h.2 G w vs (hs.rel hv) hi⟩
def KS(P:Program) (N:Nat) (b:C) (K:Exit→St→Prop) (e:Exit) (s':St):Prop:=match e with|.normal=>Tm.T P N b K s'|e=>K e s'
theorem CJ{b:C}{K:Exit→St→Prop}{s:St}:KS P N b K .normal s=Tm.T P N b K s:=kaa rfl rfl
theorem qR{b:C}{K:Exit→St→Prop}{s:St}{i:Nat}:KS P N b K (.exit i) s=K (.exit i) s:=kaa rfl rfl
theorem RW{b:C}{K:Exit→St→Prop}{s:St}:KS P N b K .ret s=K .ret s:=kaa rfl rfl
def KZ(R:St→Prop) (K:Exit→St→Prop) (e:Exit) (s':St):Prop:=match e with|.normal=>R s'|e=>K e s'
def KB(id:Nat) (K:Exit→St→Prop) (e:Exit) (s':St):Prop:=match e with|.exit id'=>if id'=id then K .normal s' else K (.exit id') s'|e=>K e s'
theorem MK{id:Nat}{K:Exit→St→Prop}{s:St}:KB id K .normal s=K .normal s:=kaa rfl rfl
theorem UR{id:Nat}{K:Exit→St→Prop}{s:St}{i:Nat}:KB id K (.exit i) s=if i=id then K .normal s else K (.exit i) s:=kaa rfl rfl
theorem wW{id:Nat}{K:Exit→St→Prop}{s:St}:KB id K .ret s=K .ret s:=kaa rfl rfl
@[congr] theorem v8{c:C} {K:Exit→St→Prop} {s s':St} (h:s=s'):Tm.T P N c K s=Tm.T P N c K s':=by rw[h]
def Z(P:Program) (N:Nat):C→(Exit→St→Prop)→St→Prop
 |.skip,K,s=>K .normal s
 |.TF l,K,s=>Wf P l (K .normal) s
 |.draw q l,K,s=>Cr P q l (K .normal) s
 |.any cuts q bs l,K,s=>T P N (.any cuts q bs l) K s
 |.seq a b,K,s=>
  match a.ry with
  |true=>Z P N a (KS P N b K) s
  |false=>Z P N a (KZ (Z P N b K) K) s
 |.cond c a b,K,s=>
  match s.ev c with
  |.v (.bool t)=>gP (t=true) (Z P N a K s) (Z P N b K s)
  |_=>False
 |.block id a,K,s=>
  match a.Fi with
  |true=>T P N (.block id a) K s
  |false=>Z P N a (KB id K) s
 |.loop a,K,s=>T P N (.loop a) K s
 |.exit id,K,s=>K (.exit id) s
 |.ret,K,s=>K .ret s
 |.stuck,_,_=>False
theorem Z.T(hm:P.follows .mixedOrders=true):∀{c:C}{K:Exit→St→Prop}{s:St},Z P N c K s→T P N c K s
 |.skip,K,s,h=>T.skip h
 |.TF l,K,s,h=>T.TF (Un h)
 |.draw q l,K,s,h=>T.draw hm (Py h)
 |.any cuts q bs l,K,s,h=>h
 |.seq a b,K,s,h=>by
  simp only[Z]at h;split at h
  ·refine T.seq ((Z.T hm h).mono ?_);intro e s' h';cases e<;>exact h'
  ·refine T.seq ((Z.T hm h).mono ?_);intro e s' h'
   cases e with
   |normal=>exact Z.T hm h'
   |_=>exact h'
 |.cond c a b,K,s,h=>by
  simp only[Z]at h;split at h
  ·rename_i t ht;exact T.cond ht (fun e=>Z.T hm (h.1 e)) (fun e=>Z.T hm (h.2 (by simp[e])))
  ·exact h.elim
 |.block id a,K,s,h=>by
  simp only[Z]at h;split at h
  ·exact h
  ·exact T.block ((Z.T hm h).mono fun e s' h'=>by cases e<;>exact h')
 |.loop a,K,s,h=>h
 |.exit id,K,s,h=>T.exit h
 |.ret,K,s,h=>T.ret h
 |.stuck,_,_,h=>by simp only[Z]at h
section
variable {l:List RI} {K:St→Prop} {s:St} {dst:Option Tmp} {i:I} {q:Nat} {f:Cal} {args:List Operand} {g:Tmp×Bool}
theorem wN:Wf P [] K s=K s:=kaa rfl rfl
theorem UI:Wf P (.op dst none i::l) K s=ym (ea s i) (KO (Wf P l K) s dst):=kaa rfl rfl
theorem IN:Wf P (.op dst (some g) i::l) K s =
 match gate s (some g)with
 |none=>False
 |some none=>ym (ea s i) (KO (Wf P l K) s dst)
 |some (some (c,b))=>gP (c=b) (ym (ea (Wr s (some g) b) i) (KO (Wf P l K) (Wr s (some g) b) dst)) (Wf P l K ((Wr s (some g) (!b)).put dst (.v undef))):=kaa rfl rfl
theorem wK{k:FuncId}{first caps:List D}(hf:s.ec f=.fn k first caps):Wf P (.call dst none f args::l) K s=qe P k (first++args.map s.ev++caps) s.m (KO (Wf P l K) s dst):=by
 simp only[Wf,hf,gate]
theorem Uz{k:FuncId}:Wf P (.call dst none (.func k) args::l) K s=qe P k (args.map s.ev) s.m (KO (Wf P l K) s dst):=by
 rw[wK (k:=k) (first:=[]) (caps:=[]) rfl,sab,Naa]
theorem FF{k:FuncId}:Wf P (.call dst (some g) (.func k) args::l) K s =
 match gate s (some g)with
 |none=>False
 |some none=>qe P k (args.map s.ev) s.m (KO (Wf P l K) s dst)
 |some (some (c,b))=>gP (c=b) (qe P k (args.map (Wr s (some g) b).ev) s.m (KO (Wf P l K) (Wr s (some g) b) dst)) (Wf P l K ((Wr s (some g) (!b)).put dst (.v undef))):=by
 simp only[Wf,St.ec,St.ev,sab,Naa]
theorem eM:Cr P 0 l K s=Wf P l K s:=by simp only[Cr]
theorem HP:Cr P (q+1) (.op dst none i::l) K s=ym (ea s i) (KO (Cr P q l K) s dst):=kaa rfl rfl
theorem mT:Cr P (q+1) (.op dst (some g) i::l) K s =
 match gate s (some g)with
 |none=>False
 |some none=>ym (ea s i) (KO (Cr P q l K) s dst)
 |some (some (c,b))=>gP (c=b) (ym (ea s i) (KO (Cr P q l K) s dst)) (Cr P q l K (s.put dst (.v undef))):=kaa rfl rfl
def kC(P:Program) (k:FuncId) (ds:List D) (R:St→Prop) (s:St) (dst:Option Tmp):Prop:=∃d,(∀m,CallT P k ds m fun d' m'=>d'=d∧m'=m)∧R (s.put dst d)
theorem EB{k:FuncId}:Cr P (q+1) (.call dst none (.func k) args::l) K s=kC P k (args.map s.ev) (Cr P q l K) s dst:=by
 simp only[Cr,St.cv,St.ev,sab,Naa,kC,gate]
theorem RG{k:FuncId}:Cr P (q+1) (.call dst (some g) (.func k) args::l) K s =
 match gate s (some g)with
 |none=>False
 |some none=>kC P k (args.map s.ev) (Cr P q l K) s dst
 |some (some (c,b))=>gP (c=b) (kC P k (args.map s.ev) (Cr P q l K) s dst) (Cr P q l K (s.put dst (.v undef))):=by
 simp only[Cr,St.cv,St.ev,sab,Naa,kC,gP]
variable {K':Exit→St→Prop} {a b:C} {c:Operand} {id:Nat} {cuts:List Nat} {bs:List (List Nat)}
theorem lk:Z P N .skip K' s=K' .normal s:=kaa rfl rfl
theorem Pn:Z P N (.TF l) K' s=Wf P l (K' .normal) s:=kaa rfl rfl
theorem Xj:Z P N (.draw q l) K' s=Cr P q l (K' .normal) s:=kaa rfl rfl
theorem Hn:Z P N (.any cuts q bs l) K' s=Tm.T P N (.any cuts q bs l) K' s:=kaa rfl rfl
def z8(P:Program) (N:Nat) (b:C) (K':Exit→St→Prop):Exit→St→Prop:=KZ (Z P N b K') K'
theorem jc:z8 P N b K' .normal s=Z P N b K' s:=kaa rfl rfl
theorem Se:z8 P N b K' (.exit id) s=K' (.exit id) s:=kaa rfl rfl
theorem sh:z8 P N b K' .ret s=K' .ret s:=kaa rfl rfl
theorem Ln:Z P N (.seq a b) K' s=match a.ry with
 |true=>Z P N a (KS P N b K') s
 |false=>Z P N a (z8 P N b K') s:=kaa rfl rfl
theorem Gj:Z P N (.cond c a b) K' s=match s.ev c with
 |.v (.bool t)=>gP (t=true) (Z P N a K' s) (Z P N b K' s)
 |_=>False:=kaa rfl rfl
theorem th:Z P N (.block id a) K' s=match a.Fi with
 |true=>Tm.T P N (.block id a) K' s
 |false=>Z P N a (KB id K') s:=kaa rfl rfl
theorem ck:Z P N (.loop a) K' s=Tm.T P N (.loop a) K' s:=kaa rfl rfl
theorem Ij:Z P N (.exit id) K' s=K' (.exit id) s:=kaa rfl rfl
theorem Cn:Z P N .ret K' s=K' .ret s:=kaa rfl rfl
end
def At(s' S:St):Prop:=ra s'.t S.t∧∃g,s'.m=S.m++g
theorem At.mk(t t':List D) (m g:List Ent) (h:ra t t'):At ⟨t,m++g⟩ ⟨t',m⟩:=⟨h,g,rfl⟩
theorem At.same(t t':List D) (m:List Ent) (h:ra t t'):At ⟨t,m⟩ ⟨t',m⟩:=⟨h,[],by simp⟩
def Fit(N:Nat) (s:St):Prop:=N≤s.m.length∧belows s.m.length s.t=true∧s.m.all (Ent.below s.m.length)=true
theorem Sub.inv{a b:D}(h:Sub a b):b=.dead∨(∃S,a=.v (.slice none 0 0)∧b=.sl S [])∨(∃l r,a=.agg l∧b=.agg r∧ra l r)∨(∃l r,a=.tup l∧b=.tup r∧ra l r)∨(∃S l r,a=.sl S l∧b=.sl S r∧ra l r)∨a=b:=by
 cases b with
 |dead=>exact .inl rfl
 |v x=>cases a<;>simp_all[Sub]
 |agg r=>cases a<;>simp_all[Sub]
 |tup r=>cases a<;>simp_all[Sub]
 |sl S r=>
  cases a with
  |sl S' l=>simp only[Sub]at h;obtain⟨rfl,h⟩:=h;exact .inr (.inr (.inr (.inr (.inl ⟨_,_,_,rfl,rfl,h⟩))))
  |_=>simp_all[Sub]
 |pt x=>cases a<;>simp_all[Sub]
 |ref _ _ _ _=>cases a<;>simp_all[Sub]
 |own _ _=>cases a<;>simp_all[Sub]
 |view _ _ _ _=>cases a<;>simp_all[Sub]
 |fn _ _ _=>cases a<;>simp_all[Sub]
 |mp _=>cases a<;>simp_all[Sub]
 |ifc _ _=>cases a<;>simp_all[Sub]
mutual
theorem Sub.trans:∀{a b c:D},Sub a b→Sub b c→Sub a c
 |a,.dead,c,h1,h2=>by
  rcases h2.inv with rfl|⟨_,h,_⟩|⟨_,_,h,_⟩|⟨_,_,h,_⟩|⟨_,_,_,h,_⟩|rfl
  ·exact Sub.Pa _
  ·cases h
  ·cases h
  ·cases h
  ·cases h
  ·exact Sub.Pa _
 |a,.agg r,c,h1,h2=>by
  rcases h1.inv with h|⟨_,_,h⟩|⟨l,r',rfl,h,hs⟩|⟨_,_,_,h,_⟩|⟨_,_,_,_,h,_⟩|rfl
  ·cases h
  ·cases h
  ·injection h with h;subst h;rcases h2.inv with rfl|⟨_,h,_⟩|⟨r',q,h,rfl,hs'⟩|⟨_,_,h,_⟩|⟨_,_,_,h,_⟩|rfl
   ·exact Sub.Pa _
   ·cases h
   ·injection h with h;subst h;simp only[Sub];exact ra.trans hs hs'
   ·cases h
   ·cases h
   ·exact h1
  ·cases h
  ·cases h
  ·exact h2
 |a,.tup r,c,h1,h2=>by
  rcases h1.inv with h|⟨_,_,h⟩|⟨_,_,_,h,_⟩|⟨l,r',rfl,h,hs⟩|⟨_,_,_,_,h,_⟩|rfl
  ·cases h
  ·cases h
  ·cases h
  ·injection h with h;subst h;rcases h2.inv with rfl|⟨_,h,_⟩|⟨_,_,h,_⟩|⟨r',q,h,rfl,hs'⟩|⟨_,_,_,h,_⟩|rfl
   ·exact Sub.Pa _
   ·cases h
   ·cases h
   ·injection h with h;subst h;simp only[Sub];exact ra.trans hs hs'
   ·cases h
   ·exact h1
  ·cases h
  ·exact h2
 |a,.sl S r,c,h1,h2=>by
  rcases h2.inv with rfl|⟨_,h,_⟩|⟨_,_,h,_⟩|⟨_,_,h,_⟩|⟨S',l',q,h,rfl,hs'⟩|rfl
  ·exact Sub.Pa _
  ·cases h
  ·cases h
  ·cases h
  ·injection h with h3 h4;subst h3;subst h4;rcases h1.inv with h|⟨_,rfl,h⟩|⟨_,_,_,h,_⟩|⟨_,_,_,h,_⟩|⟨_,l,_,rfl,h,hs⟩|rfl
   ·cases h
   ·injection h with h3 h4;subst h4;simp only[ra]at hs';subst hs';simp[Sub]
   ·cases h
   ·cases h
   ·injection h with h3 h4;subst h3;subst h4;simp only[Sub,true_and];exact ra.trans hs hs'
   ·exact h2
  ·exact h1
 |a,.v x,c,h1,h2=>by
  rcases h1.inv with h|⟨_,_,h⟩|⟨_,_,_,h,_⟩|⟨_,_,_,h,_⟩|⟨_,_,_,_,h,_⟩|rfl<;>first|cases h|exact h2
 |a,.pt x,c,h1,h2=>by
  rcases h1.inv with h|⟨_,_,h⟩|⟨_,_,_,h,_⟩|⟨_,_,_,h,_⟩|⟨_,_,_,_,h,_⟩|rfl<;>first|cases h|exact h2
 |a,.ref _ _ _ _,c,h1,h2=>by
  rcases h1.inv with h|⟨_,_,h⟩|⟨_,_,_,h,_⟩|⟨_,_,_,h,_⟩|⟨_,_,_,_,h,_⟩|rfl<;>first|cases h|exact h2
 |a,.own _ _,c,h1,h2=>by
  rcases h1.inv with h|⟨_,_,h⟩|⟨_,_,_,h,_⟩|⟨_,_,_,h,_⟩|⟨_,_,_,_,h,_⟩|rfl<;>first|cases h|exact h2
 |a,.view _ _ _ _,c,h1,h2=>by
  rcases h1.inv with h|⟨_,_,h⟩|⟨_,_,_,h,_⟩|⟨_,_,_,h,_⟩|⟨_,_,_,_,h,_⟩|rfl<;>first|cases h|exact h2
 |a,.fn _ _ _,c,h1,h2=>by
  rcases h1.inv with h|⟨_,_,h⟩|⟨_,_,_,h,_⟩|⟨_,_,_,h,_⟩|⟨_,_,_,_,h,_⟩|rfl<;>first|cases h|exact h2
 |a,.mp _,c,h1,h2=>by
  rcases h1.inv with h|⟨_,_,h⟩|⟨_,_,_,h,_⟩|⟨_,_,_,h,_⟩|⟨_,_,_,_,h,_⟩|rfl<;>first|cases h|exact h2
 |a,.ifc _ _,c,h1,h2=>by
  rcases h1.inv with h|⟨_,_,h⟩|⟨_,_,_,h,_⟩|⟨_,_,_,h,_⟩|⟨_,_,_,_,h,_⟩|rfl<;>first|cases h|exact h2
theorem ra.trans:∀{a b c:List D},ra a b→ra b c→ra a c
 |[],b,c,h1,h2=>by simp only[ra]at h1;subst h1;exact h2
 |d::a,b,c,h1,h2=>by
  simp only[ra]at h1;obtain⟨e,r,rfl,k1,k2⟩:=h1;simp only[ra]at h2;obtain⟨e',r',rfl,k3,k4⟩:=h2;exact ra.cons (Sub.trans k1 k3) (ra.trans k2 k4)
end
theorem At.trans{a b c:St}(h1:At a b) (h2:At b c):At a c:=by
 obtain⟨h1,g,k1⟩:=h1;obtain⟨h2,g',k2⟩:=h2;exact⟨h1.trans h2,g'++g,by rw[k1,k2,List.append_assoc]⟩
def sF(N:Nat) (K:Exit→St→Prop):Prop:=∀s s',At s' s→Fit N s→K .normal s→K .normal s'
theorem AF{s S:St}(hs:At s S) (hb:Fit N S):∀(G:Gh) (w:World) (a:Act),N≤G.n→Rel G w a s→∃G',Rel G' w a S∧StepN N G w s.m G' w S.m:=by
 intro G w a hN' hr0;obtain⟨h1,g,h2⟩:=hs;obtain⟨hN,ht,hm0⟩:=hb;have hst:S.m=s.m.take S.m.length:=by rw[h2,vae]
 have hk:S.m.length≤s.m.length:=by simp[h2]
 have hm:(s.m.take S.m.length).all (Ent.below S.m.length)=true:=by rw[←hst];exact hm0
 have hr:Rel G w a ⟨S.t,s.m⟩:=⟨h1.rel hr0.t,hr0.inv,hr0.defers⟩;generalize hkk:S.m.length=k at *;obtain⟨St,Sm⟩:=S;simp only at hst ht hkk hr;subst hst;clear hr0 h2 hkk hm0;have hi:=hr.inv;have hget:∀(i:Nat) e,(s.m.take k)[i]?=some e→i<k∧s.m[i]?=some e:=by
  intro i e he;rw[List.getElem?_take]at he;split at he
  ·rename_i hik;exact⟨hik,he⟩
  ·cases he
 have hinv:Inv (G.trim k) w (s.m.take k):=by
  refine⟨by simp[Gh.trim];omega,hi.F,fun i e he=>?_,fun i j e e' he he' hl hl' b hb hb'=>hi.apart i j e e' (hget i e he).2 (hget j e' he').2 hl hl' b hb hb',hi.gl.bare fun _ h=>h⟩;have hbe:e.below k=true:=Raa.1 hm e (kab he);have hent:=hi.ent i e (hget i e he).2
  cases e with
  |live S Ga l=>
   obtain⟨a1,a2,a3,a4,a5⟩:=hent;refine⟨a1,a2,a3,a4,?_⟩;rcases a5 with a5|⟨b',cs,T,hb',hF,hblk,hsz,hrow⟩
   ·exact .inl a5
   ·exact .inr ⟨b',cs,T,hb',hF,hblk,hsz,hrow.trim (by simpa [Ent.below] using hbe)⟩
  |mp es=>
   obtain⟨a1,b,en,cl,a2,a3,a4,a5⟩:=hent;exact⟨a1,b,en,cl,a2,a3,a4,a5.trim (by simpa [Ent.below] using hbe)⟩
  |gone=>trivial
 refine⟨G.trim k,⟨hr.t.trim ht,hinv,hr.defers⟩,⟨fun _ h=>h,fun _ _=>rfl,hN,fun i hi'=>.inl ⟨rfl,rfl,rfl,rfl,rfl⟩,rfl,rfl,rfl,yaa _,fun _ _ _=>rfl,fun _ _ h=>.inl h,?_⟩⟩;rintro b hb ⟨i,e,he,hl,hB⟩;exact⟨i,e,(hget i e he).2,hl,hB⟩
def xE(N:Nat) (K:Exit→St→Prop) (e:Exit) (s:St):Prop:=∀(G:Gh) (w:World) (a:Act),N≤G.n→Rel G w a s→∃s' G',K e s'∧Rel G' w a s'∧StepN N G w s.m G' w s'.m
theorem xE.of{K:Exit→St→Prop}{e:Exit}{s:St}(h:K e s):xE N K e s:=fun G w a hN hr=>⟨s,G,h,hr,StepN.refl _ _ _ hN⟩
theorem T.JM{c:C}{K:Exit→St→Prop}{s:St}(h:Tm.T P N c (xE N K) s):Tm.T P N c K s:=by
 intro code hc G w a hN hr;refine Code.wp_mono ?_ (h code hc G w a hN hr);rintro e a' w' ⟨s',G',hK,hr',hs'⟩;obtain⟨s'',G'',k1,k2,k3⟩:=hK G' w' a' hs'.n hr';exact⟨s'',G'',k1,k2,hs'.trans k3⟩
theorem kG{K:Exit→St→Prop}:sF N (xE N K):=by
 intro s s' h1 h2 h3 G w a hN hr;obtain⟨G',k1,k2⟩:=AF h1 h2 G w a hN hr;obtain⟨s'',G'',m1,m2,m3⟩:=h3 G' w a k2.n k1;exact⟨s'',G'',m1,m2,k2.trans m3⟩
theorem T.at{c:C}{K:Exit→St→Prop}{s S:St}(hs:At s S) (hb:Fit N S) (h:Tm.T P N c K S):Tm.T P N c K s:=by
 obtain⟨h1,g,h2⟩:=hs;obtain⟨b1,b2,b3⟩:=hb;refine T.sub S.t h1 ?_;refine T.trim S.m.length b1 (by simp[h2]) b2 (by simpa [h2] using b3) ?_;have hst:(⟨S.t,s.m.take S.m.length⟩:St)=S:=by rw[h2,vae]
 simp only[hst];exact h
theorem T.FM{a b:C}{K:Exit→St→Prop}{s:St}(h:Tm.T P N a (KS P N b K) s):Tm.T P N (.seq a b) K s:=T.seq (h.mono fun e s' h'=>by cases e<;>exact h')
theorem Us{b:C}{K:Exit→St→Prop}:sF N (KS P N b K):=fun s s' h1 h2 h3=>T.at h1 h2 h3
theorem XG{id:Nat}{K:Exit→St→Prop}(h:sF N K):sF N (KB id K):=h
def KM{X:Type}(id:Nat) (K:Exit→St→Prop) (S:X→St) (Wm fin:X→Prop) (μ:X→Nat) (y:X) (e:Exit) (s':St):Prop:=
 match e with|.normal=>∃z,Wm z∧μ z<μ y∧At s' (S z)|.exit j=>if j=id then(∃z,fin z∧At s' (S z))else K (.exit j) s'|e=>K e s'
section
variable {X:Type} {id:Nat} {K:Exit→St→Prop} {S:X→St} {Wm fin:X→Prop} {μ:X→Nat} {y:X} {s':St}
theorem Bk:KM id K S Wm fin μ y .normal s' = ∃z,Wm z∧μ z<μ y∧At s' (S z):=kaa rfl rfl
theorem qm{j:Nat}:KM id K S Wm fin μ y (.exit j) s'=if j=id then(∃z,fin z∧At s' (S z))else K (.exit j) s':=kaa rfl rfl
end
def KI(id n:Nat) (K:Exit→St→Prop) (S:Nat→St) (i:Nat) (e:Exit) (s':St):Prop:=
 match e with|.normal=>i<n∧At s' (S (i+1))|.exit j=>if j=id then i=n∧At s' (S n)else K (.exit j) s'|e=>K e s'
section
variable {id n i:Nat} {K:Exit→St→Prop} {S:Nat→St} {s':St}
theorem Fo:KI id n K S i .normal s'=(i<n∧At s' (S (i+1))):=kaa rfl rfl
theorem uy{j:Nat}:KI id n K S i (.exit j) s'=if j=id then i=n∧At s' (S n)else K (.exit j) s':=kaa rfl rfl
end
theorem FG{X:Type}{id:Nat}{K:Exit→St→Prop}{S:X→St}{Wm fin:X→Prop}{μ:X→Nat}{y:X}:sF N (KM id K S Wm fin μ y):=by
 rintro s s' h1 - ⟨z,k1,k2,k3⟩;exact⟨z,k1,k2,h1.trans k3⟩
theorem KN{id n i:Nat}{K:Exit→St→Prop}{S:Nat→St}:sF N (KI id n K S i):=by
 rintro s s' h1 - ⟨k1,k2⟩;exact⟨k1,h1.trans k2⟩
theorem T.OE{id:Nat}{x:C}{K:Exit→St→Prop}{s:St}{X:Type}(S:X→St) (Wm fin:X→Prop) (μ:X→Nat) (x₀:X) (h0:Wm x₀) (hs:At s (S x₀))
 (hb:∀y,Wm y∨fin y→Fit N (S y))
 (round:∀y,Wm y→Tm.T P N x (KM id K S Wm fin μ y) (S y))
 (hst:(∃z,fin z)→sF N K) (rest:∀z,fin z→K .normal (S z)):Tm.T P N (.block id (.loop x)) K s:=by
 refine T.at hs (hb x₀ (.inl h0)) ?_;refine T.block (T.W5 S Wm μ x₀ h0 (ra.Gb _) rfl (fun y hy=>hb y (.inl hy)) fun y hy=>(round y hy).mono ?_);intro e s' h
 cases e with
 |normal=>obtain⟨z,h1,h2,h3,h4⟩:=h;exact⟨z,h1,h2,h3,h4⟩
 |exit j=>
  simp only[qm]at h⊢;split at h
  ·rename_i hj;rw[if_pos hj];obtain⟨z,hz,h1⟩:=h;exact hst ⟨z,hz⟩ (S z) s' h1 (hb z (.inr hz)) (rest z hz)
  ·rename_i hj;rw[if_neg hj];exact h
 |_=>exact h
theorem T.jV{id:Nat}{x:C}{K:Exit→St→Prop}{s:St}(n:Nat) (S:Nat→St) (hs:At s (S 0)) (hb:∀i,i≤n→Fit N (S i))
 (round:∀i,i≤n→Tm.T P N x (KI id n K S i) (S i))
 (hst:sF N K) (rest:K .normal (S n)):Tm.T P N (.block id (.loop x)) K s:=by
 refine T.OE (X:=Nat) S (fun i=>i≤n) (fun i=>i=n) (fun i=>n-i) 0 (Bab _) hs (fun y hy=>hb y (by omega)) (fun i hi=>(round i hi).mono ?_) (fun _=>hst) (fun z hz=>by rw[hz];exact rest);intro e s' h
 cases e with
 |normal=>
  simp only[Fo]at h;exact⟨i+1,h.1,by show n-(i+1)<n-i;omega,h.2⟩
 |exit j=>
  simp only[uy,qm]at h⊢;split at h
  ·rename_i hj;rw[if_pos hj];exact⟨n,rfl,h.2⟩
  ·rename_i hj;rw[if_neg hj];exact h
 |_=>exact h
theorem EM(d:D):Gk [d]=d:=kaa rfl rfl
theorem DM:Gk []=.tup []:=kaa rfl rfl
theorem RM(d e:D) (l:List D):Gk (d::e::l)=.tup (d::e::l):=kaa rfl rfl
theorem eP{c:Prop} [Decidable c] (p:D×List Ent) (f:D→List Ent→Prop):ym (if c then some p else none) f=(c∧f p.1 p.2):=by
 by_cases h:c<;>simp[h,ym]
theorem wS{α β:Type}{c:Prop} [Decidable c] (a:α) (g:α→β):(if c then some a else none:Option α).map g=if c then some (g a)else none:=by
 by_cases h:c<;>simp[h]
theorem Vo{n:Int}(h:-9223372036854775808≤n∧n≤9223372036854775807):ca .i64 n=n:=by
 rw[Qq,IntKind.wrap_i64];omega
theorem MU(a b:Nat):Int.fdiv (a:Int) (b:Int)=((a / b:Nat):Int):=(Int.fdiv_eq_ediv_of_nonneg _ (by omega)).trans (by norm_cast)
section
variable {k:Nat} {m:List Ent} {id Ga S lo n:Nat} {l:List D}
end
theorem JQ{n:Int}(h:0≤n∧n<18446744073709551616):ca .u64 n=n:=by simp only[ca];omega
theorem ic{k:Nat}(h:k<18446744073709551616):ca .u64 (k:Int)=(k:Int):=JQ (by omega)
theorem JN:((0:Nat):Int)=0:=kaa rfl rfl
theorem xm(b:Bool):kf (Op.unary .not (.bool b))=some (.bool (!b)):=kaa rfl rfl
theorem BB(a b:Nat):((a:Int)<(b:Int))↔a<b:=by omega
theorem OS{k:Nat}{a b:List D}(ha:belows k a=true) (hb:belows k b=true):belows k (a++b)=true:=by
 induction a with
 |nil=>exact hb
 |cons d a ih=>
  simp only[belows,paa,Yaa]at ha⊢;exact⟨ha.1,ih ha.2⟩
theorem lL{a b:List D}(ha:fa a=true) (hb:fa b=true):fa (a++b)=true:=by
 rw[gh]at ha hb⊢;intro d hd;rcases Jaa.1 hd with h|h
 ·exact ha d h
 ·exact hb d h
theorem FQ(k:IntKind) (n:Int):kf (Op.unary .neg (.int k n))=some (.int k (ca k (-n))):=by
 show some (Value.int k (k.wrap (0-n)))=_;rw[Qq,Int.zero_sub]
theorem IS(k:IntKind) (a b:Int):kf (Builtin.max_ #[] 0 [Value.int k a,Value.int k b].toArray)=some (.int k (max a b)):=by
 simp only[Builtin.max_,kf,vaf,bind_pure,Builtin.max2];by_cases h:a<b
 ·rw[if_pos h,Int.max_eq_right (by omega)];rfl
 ·rw[if_neg h,Int.max_eq_left (by omega)];rfl
theorem oS(k:IntKind) (a b:Int):kf (Builtin.min_ #[] 0 [Value.int k a,Value.int k b].toArray)=some (.int k (min a b)):=by
 simp only[Builtin.min_,kf,vaf,bind_pure,Builtin.min2];by_cases h:b<a
 ·rw[if_pos h,Int.min_eq_right (by omega)];rfl
 ·rw[if_neg h,Int.min_eq_left (by omega)];rfl
section
variable {α:Type} {l b c:List α} {a a' x:α}
end
end Go.Tm
namespace Go.Tm
open Go.RowKit (Below)
open Go.WideShapes
inductive Sh where
 |bool
 |int (k:IntKind)
 |str
 |sl (S:Nat) (A:Bool) (e:Sh)
 |cat (l:List Sh)
def aggT(P:Program) (t:TypeId):Bool:=
 match P.underlying t with
 |some (.struct _)=>true
 |some (.array _ _)=>true
 |_=>false
def yn(f:TypeId→Option Sh) (P:Program):List Field→Nat→Option (List Sh×Nat)
 |[],off=>some ([],off)
 |g::gs,off=>
  if g.offset=off then
   match f g.type,yn f P gs (off+P.cellsOf g.type)with
   |some s,some (l,e)=>some (s::l,e)
   |_,_=>none
  else none
def shOf(P:Program):Nat→TypeId→Option Sh
 |0,_=>none
 |n+1,t=>
  match P.underlying t with
  |some .bool=>some .bool
  |some (.int k)=>some (.int k)
  |some .string=>some .str
  |some (.slice e)=>if 0<P.cellsOf e∧0<P.bytesOf e then(shOf P n e).map fun s=>.sl (P.cellsOf e) (aggT P e) s else none
  |some (.struct fs)=>
   match yn (shOf P n) P fs.toList 0 with
   |some (l,e)=>if e=P.cellsOf t then some (.cat l)else none
   |none=>none
  |some (.array k e)=>if P.cellsOf t=k*P.cellsOf e then(shOf P n e).map fun s=>.cat (maa k s)else none
  |_=>none
def rm(A:Bool) (cs:List D):D:=bif A then .agg cs else cs.headD .dead
mutual
def Cj:Sh→List D→Prop
 |.bool,ds=>∃b,ds=[.v (.bool b)]
 |.int k,ds=>∃n,ds=[.v (.int k n)]∧(Lit.int k n).wf=true
 |.str,ds=>∃s:ByteArray,ds=[.v (.string s)]∧s.size≤maxLen
 |.sl S A e,ds=>∃l,ds=[.sl S l]∧l.length≤140737488355328∧∀d∈l,∃cs,Cj e cs∧d=rm A cs
 |.cat l,ds=>Gp l ds
def Gp:List Sh→List D→Prop
 |[],ds=>ds=[]
 |s::l,ds=>∃a b,ds=a++b∧Cj s a∧Gp l b
end
theorem Iw{G:Gh}{w:World}:∀{a b:List D}{us vs:List Value},VsRel G w a us→VsRel G w b vs→VsRel G w (a++b) (us++vs)
 |[],b,us,vs,h1,h2=>by simp only[VsRel]at h1;subst h1;exact h2
 |d::a,b,us,vs,h1,h2=>by
  simp only[VsRel]at h1;obtain⟨u,r,rfl,k1,k2⟩:=h1;simp only[Yaa,VsRel];exact⟨u,_,rfl,k1,Iw k2 h2⟩
theorem cx{f:TypeId→Option Sh}{P:Program}:∀{fs:List Field}{off:Nat}{l:List Sh}{e:Nat},yn f P fs off=some (l,e)→off≤e
 |[],off,l,e,h=>by simp[yn]at h;omega
 |g::gs,off,l,e,h=>by
  simp only[yn]at h;split at h
  ·split at h
   ·rename_i s l' e' h1 h2;simp at h;have:=cx h2;omega
   ·cases h
  ·cases h
def R0(w:World):Gh:=Gh.bare fun b=>b<w.heap.size
theorem jF{w:World}{a:Addr}{v:Value}(h:w.cell? a=some v):a.block<w.heap.size:=by
 rcases Taa a.block w.heap.size with h'|h'
 ·exact h'
 ·unfold World.cell? at h;rw[ead h']at h;simp at h
section
variable {H:Type} {enc:TypeId×Value→H} {P:Program} {w:World} {base:Nat} {spare:Nat→Bool} {held:Bool}
theorem Vn{P:Program}{e:TypeId}:∀{l:List (DataW H)}{d:DataW H},d∈l→∀n∈d.weights P e,n∈DataW.weightsAll P e l
 |[],_,h=>by cases h
 |x::l,d,h=>by
  intro n hn;simp only[DataW.weightsAll,Jaa];rcases fab.1 h with rfl|h
  ·exact .inl hn
  ·exact .inr (Vn h n hn)
theorem yx{n fuel:Nat}{cs:List Value}(ih:∀t cs x s,shOf P n t=some s→DataW.trod enc P w base spare held fuel t cs=some x→(∀n∈x.1.weights P t,n≤reachBytes)→∃ds,Cj s ds∧VsRel (R0 w) w ds cs∧∀c∈cs,one c=true) :
 ∀(fs:List Field) (off:Nat) (l:List Sh) (e:Nat),yn (shOf P n) P fs off=some (l,e)→
  (∀f∈fs,∃x,DataW.trod enc P w base spare held fuel f.type ((cs.drop f.offset).take (P.cellsOf f.type))=some x∧∀n∈x.1.weights P f.type,n≤reachBytes)→
  ∃ds,Gp l ds∧VsRel (R0 w) w ds ((cs.drop off).take (e-off))∧∀c∈(cs.drop off).take (e-off),one c=true
 |[],off,l,e,h,_=>by
  simp[yn]at h;obtain⟨rfl,rfl⟩:=h;refine⟨[],by simp[Gp],by simp[VsRel],by simp⟩
 |g::gs,off,l,e,h,hx=>by
  simp only[yn]at h;split at h
  ·rename_i hoff;split at h
   ·rename_i s l' e' h1 h2;simp only[zaa,Aaa]at h;obtain⟨rfl,rfl⟩:=h;obtain⟨x,hx0,hw0⟩:=hx g (by simp);obtain⟨a,k1,k2,k3⟩:=ih _ _ _ _ h1 hx0 hw0;obtain⟨b,m1,m2,m3⟩:=yx ih gs _ _ _ h2 fun f hf=>hx f (by simp[hf]);have hle:=cx h2;have heq:(cs.drop off).take (e'-off)=(cs.drop g.offset).take (P.cellsOf g.type)++(cs.drop (off+P.cellsOf g.type)).take (e'-(off+P.cellsOf g.type)):=by
     rw[show e'-off=P.cellsOf g.type+(e'-(off+P.cellsOf g.type)) by omega,kaf,Xad,hoff]
    rw[heq];refine⟨a++b,by simp only[Gp];exact⟨a,b,rfl,k1,m1⟩,Iw k2 m2,fun c hc=>?_⟩;rcases Jaa.1 hc with hc|hc
    ·exact k3 c hc
    ·exact m3 c hc
   ·cases h
  ·cases h
theorem kF{n fuel S:Nat}{cs:List Value}{e:TypeId}{s:Sh}(ih:∀cs x,DataW.trod enc P w base spare held fuel e cs=some x→(∀n∈x.1.weights P e,n≤reachBytes)→∃ds,Cj s ds∧VsRel (R0 w) w ds cs∧∀c∈cs,one c=true) :
 ∀(k i:Nat),(∀j,i≤j→j<i+k→∃x,DataW.trod enc P w base spare held fuel e ((cs.drop (j*S)).take S)=some x∧∀n∈x.1.weights P e,n≤reachBytes)→
  ∃ds,Gp (maa k s) ds∧VsRel (R0 w) w ds ((cs.drop (i*S)).take (k*S))∧∀c∈(cs.drop (i*S)).take (k*S),one c=true
 |0,i,_=>⟨[],by simp[Gp],by simp[VsRel],by simp⟩
 |k+1,i,hx=>by
  obtain⟨x,hx0,hw0⟩:=hx i (yaa _) (by omega);obtain⟨a,k1,k2,k3⟩:=ih _ _ hx0 hw0;obtain⟨b,m1,m2,m3⟩:=kF (n:=n) ih k (i+1) fun j h1 h2=>hx j (by omega) (by omega);have heq:(cs.drop (i*S)).take ((k+1)*S)=(cs.drop (i*S)).take S++(cs.drop ((i+1)*S)).take (k*S):=by
   rw[show(k+1)*S=S+k*S by rw[Ead];omega,kaf,Xad,Ead]
  rw[heq];refine⟨a++b,by simp only[bac,Gp];exact⟨a,b,rfl,k1,m1⟩,Iw k2 m2,fun c hc=>?_⟩;rcases Jaa.1 hc with hc|hc
  ·exact k3 c hc
  ·exact m3 c hc
theorem dF{A:Bool}{ds:List D}{cs:List Value}(h:VsRel (R0 w) w ds cs) (h1:∀c∈cs,one c=true) (hA:A=false→cs.length=1) :
 ∃u:Value,VRel (R0 w) w (rm A ds) u∧u.cells=cs.toArray∧(A=true→u=.agg cs.toArray)∧(A=false→∃c,cs=[c]∧u=c):=by
 cases A with
 |true=>exact⟨.agg cs.toArray,by simp only[rm,cond_true,VRel];exact⟨cs,rfl,h,h1⟩,rfl,fun _=>rfl,fun h=>by cases h⟩
 |false=>
  match cs,hA rfl with
  |[c],_=>
   match ds,h with
   |d::r,h=>
    simp only[VsRel]at h;obtain⟨u,us,hu,hv,hr⟩:=h;injection hu with hu1 hu2;subst hu1;have h1c:=h1 c (by simp);have hcells:c.cells=[c].toArray:=by cases c<;>simp[one]at h1c<;>rfl
    exact⟨c,by simpa [rm] using hv,hcells,fun h=>Bool.noConfusion h,fun _=>⟨c,rfl,rfl⟩⟩
theorem EN{n:Nat}{t:TypeId}{s:Sh}(h:shOf P n t=some s) {fuel:Nat}{cs:List Value}{x:DataW H×List MemPlace}(hx:DataW.trod enc P w base spare held fuel t cs=some x):aggT P t=false→cs.length=1:=by
 intro hA
 cases n with
 |zero=>simp[shOf]at h
 |succ n=>
  simp only[shOf]at h;simp only[aggT]at hA;split at h
  ·rename_i hu;obtain⟨b,rfl,_⟩:=DataW.trod_bool hu hx;rfl
  ·rename_i hu;obtain⟨b,rfl,_⟩:=DataW.trod_int hu hx;rfl
  ·rename_i hu;obtain⟨b,rfl,_⟩:=DataW.trod_string hu hx;rfl
  ·rename_i hu;rcases DataW.trod_slice hu hx with⟨rfl,_⟩|⟨a,len,cap,elems,rest,m,_,rfl,_⟩<;>rfl
  ·rename_i hu;rw[hu]at hA;cases hA
  ·rename_i hu;rw[hu]at hA;cases hA
  ·cases h
theorem Ot:∀(n:Nat) (fuel:Nat) (t:TypeId) (cs:List Value) (x:DataW H×List MemPlace) (s:Sh),shOf P n t=some s→DataW.trod enc P w base spare held fuel t cs=some x→(∀n∈x.1.weights P t,n≤reachBytes)→
 ∃ds,Cj s ds∧VsRel (R0 w) w ds cs∧∀c∈cs,one c=true
 |0,fuel,t,cs,x,s,h,_,_=>by simp[shOf]at h
 |n+1,fuel,t,cs,x,s,h,hx,hwt=>by
  simp only[shOf]at h;split at h
  ·rename_i hu;injection h with h;subst h;obtain⟨b,rfl,_⟩:=DataW.trod_bool hu hx;exact⟨[.v (.bool b)],by simp only[Cj];exact⟨b,rfl⟩,by simp[VsRel,VRel],by simp[one]⟩
  ·rename_i k hu;injection h with h;subst h;obtain⟨b,rfl,_,hw⟩:=DataW.trod_int hu hx;exact⟨[.v (.int k b)],by simp only[Cj];exact⟨b,rfl,hw⟩,by simp[VsRel,VRel],by simp[one]⟩
  ·rename_i hu;injection h with h;subst h;obtain⟨b,rfl,_,hw⟩:=DataW.trod_string hu hx;exact⟨[.v (.string b)],by simp only[Cj];exact⟨b,rfl,hw⟩,by simp[VsRel,VRel],by simp[one]⟩
  ·rename_i e hu;split at h
   ·rename_i hpos;simp only[laa]at h;obtain⟨se,hse,rfl⟩:=h;rcases DataW.trod_slice hu hx with⟨rfl,_⟩|⟨a,len,cap,elems,rest,m,_,rfl,rfl,hb,hl,hm,hlen,hel,_,_⟩
    ·refine⟨[.sl (P.cellsOf e) []],by simp only[Cj];exact⟨[],rfl,Bab _,fun d hd=>by simp at hd⟩,?_,by simp[one]⟩;simp only[VsRel,VRel];exact⟨_,_,rfl,⟨none,0,0,rfl,rfl,yaa _,.inl trivial⟩,rfl⟩
    ·simp only[DataW.weights,hu,fab,Jaa]at hwt;have hlb:=hwt _ (.inl rfl);have hle:len≤140737488355328:=by
      simp only[gab]at hlb;have h1:=Nat.le_mul_of_pos_right (elems.length+rest.length) hpos.2;have h2:reachBytes<140737488355328:=by decide
      omega
     have each:∀i,i<len→∃d u,(∃cs,Cj se cs∧d=rm (aggT P e) cs)∧VRel (R0 w) w d u∧u.cells.size=P.cellsOf e∧(∀j c,u.cells[j]?=some c→one c=true∧w.cell? ((a.add (i*P.cellsOf e)).add j)=some c):=by
      intro i hi;have h1:=hel i hi;rw[iaa (by omega)]at h1;obtain⟨ecs,k1,k2⟩:=rac.1 h1;obtain⟨ds,m1,m2,m3⟩:=Ot n _ _ _ _ _ hse k2 (fun q hq=>hwt q (.inr (.inl (Vn (yae (raa _)) q hq))));obtain⟨_,q1,q2⟩:=World.cells?_some k1;obtain⟨u,r1,r2,_,_⟩:=dF (A:=aggT P e) m2 m3 (EN hse k2);refine⟨rm (aggT P e) ds,u,⟨ds,m1,rfl⟩,r1,by rw[r2];simpa using q1,fun j c hj=>?_⟩;rw[r2]at hj;have hj':ecs[j]?=some c:=by simpa using hj
      have hjl:j<P.cellsOf e:=by rw[←q1];exact(Caa.1 hj').1
      exact⟨m3 c (kab hj'),by rw[q2 j hjl,hj']⟩
     have hrow:∀k,k≤len→∃l:List D,l.length=k∧(∀d∈l,∃cs,Cj se cs∧d=rm (aggT P e) cs)∧∀(i:Nat) d,l[i]?=some d→∃u,VRel (R0 w) w d u∧u.cells.size=P.cellsOf e∧(∀j c,u.cells[j]?=some c→one c=true∧w.cell? ((a.add (i*P.cellsOf e)).add j)=some c):=by
      intro k
      induction k with
      |zero=>exact fun _=>⟨[],rfl,fun d hd=>by simp at hd,fun i d hd=>by simp at hd⟩
      |succ k ih=>
       intro hk;obtain⟨l,l1,l2,l3⟩:=ih (by omega);obtain⟨d,u,d1,d2,d3,d4⟩:=each k (by omega);refine⟨l++[d],by simp[l1],fun d' hd'=>?_,fun i d' hd'=>?_⟩
       ·rcases Jaa.1 hd' with hd'|hd'
        ·exact l2 d' hd'
        ·simp at hd';rw[hd'];exact d1
       ·rcases Taa i l.length with hi|hi
        ·rw[Iaa hi]at hd';exact l3 i d' hd'
        ·rw[rab hi]at hd';have:i-l.length=0:=by
          have:=(Caa.1 hd').1;simp at this;omega
         rw[this]at hd';simp at hd';subst hd';have hik:i=k:=by omega
         subst hik;exact⟨u,d2,d3,d4⟩
     obtain⟨l,l1,l2,l3⟩:=hrow len (yaa _);refine⟨[.sl (P.cellsOf e) l],by simp only[Cj];exact⟨l,rfl,by omega,l2⟩,?_,by simp[one]⟩;simp only[VsRel,VRel];refine⟨_,_,rfl,⟨some a,len,cap,rfl,l1.symm,hl,?_⟩,rfl⟩
     cases l with
     |nil=>exact .inl rfl
     |cons d0 l'=>
      obtain⟨u0,_,us,uc⟩:=l3 0 d0 rfl;have h0:∃c,u0.cells[0]?=some c:=⟨u0.cells[0]'(by omega),Vaa (by omega)⟩;obtain⟨c,hc⟩:=h0;have hc2:=(uc 0 c hc).2;have hadd:(a.add (0*P.cellsOf e)).add 0=a:=by simp[Addr.add]
      rw[hadd]at hc2;obtain⟨b,off,spot⟩:=a;have hspot:spot=none:=by simpa using World.cell?_spot hc2
      subst hspot;refine .inr ⟨b,off,rfl,jF hc2,?_⟩;rw[ld];intro i d hd;obtain⟨u,u1,u2,u3⟩:=l3 i d hd;refine⟨u,u1,u2,fun j c hj=>?_⟩;obtain⟨c1,c2⟩:=u3 j c hj;refine⟨c1,?_⟩;have haddr:(Addr.add (Addr.add ⟨b,off,none⟩ (i*P.cellsOf e)) j)=⟨b,off+i*P.cellsOf e+j,none⟩:=by
       unfold Addr.add;split<;>split<;>simp_all
      rw[haddr]at c2;exact c2
   ·cases h
  ·rename_i fs hu;split at h
   ·rename_i l e hsf;split at h
    ·rename_i he;injection h with h;subst h;obtain⟨xs,m,rfl,rfl,hlen,hxl,hget⟩:=DataW.trod_struct hu hx;simp only[DataW.weights,hu]at hwt;obtain⟨ds,k1,k2,k3⟩:=yx (n:=n) (fuel:=m) (cs:=cs) (fun t cs x s h1 h2 h3=>Ot n _ _ _ _ _ h1 h2 h3) fs.toList 0 l e hsf (fun f hf=>by
      obtain⟨i,hi,hfi⟩:=List.mem_iff_getElem.1 hf;have hi':i<fs.size:=by simpa using hi
      have:=hget i f (by rw[Vaa hi'];simpa using hfi);rw[iaa (by omega)]at this;exact⟨_,this,fun q hq=>hwt q (DataW.weights_mem_each (j:=i) (t:=f.type) (d:=(xs[i]'(by omega)).1) (by simp only[Dab,iaa hi,hfi,Vab]) (by rw[Dab,iaa (show i<xs.length by omega)];rfl) q hq)⟩)
     rw[lac,jad,he,←hlen,dab]at k2 k3;exact⟨ds,by simp only[Cj];exact k1,k2,k3⟩
    ·cases h
   ·cases h
  ·rename_i k e hu;split at h
   ·rename_i he;simp only[laa]at h;obtain⟨se,hse,rfl⟩:=h;obtain⟨xs,m,rfl,rfl,hlen,hxl,hget⟩:=DataW.trod_array hu hx;simp only[DataW.weights,hu]at hwt;obtain⟨ds,k1,k2,k3⟩:=kF (n:=n) (fuel:=m) (S:=P.cellsOf e) (cs:=cs) (e:=e) (s:=se) (fun cs x h2 h3=>Ot n _ _ _ _ _ hse h2 h3) k 0 (fun j _ hj=>by
     have:=hget j (by omega);rw[iaa (by omega)]at this;exact⟨_,this,fun q hq=>hwt q (Vn (yae (raa _)) q hq)⟩)
    rw[Nat.zero_mul,lac,←he,←hlen,dab]at k2 k3;exact⟨ds,by simp only[Cj];exact k1,k2,k3⟩
   ·cases h
  ·cases h
def LookV(A:Bool) (s:Sh) (d:D):Prop:=∃ds,Cj s ds∧d=rm A ds
theorem arg_tree{n:Nat}{t:TypeId}{s:Sh}{v:Value}{d:DataW H}{p:List MemPlace}{r:Reach}{b0:Nat}(h:shOf P n t=some s) (hx:DataW.Trod enc P w base spare held t v d p) (hv:Value.okWide P w r b0 t v) (hwt:∀n∈d.weights P t,n≤reachBytes) :
 ∃d',LookV (aggT P t) s d'∧VRel (R0 w) w d' v:=by
 obtain⟨fuel,hx⟩:=hx;obtain⟨ds,k1,k2,k3⟩:=Ot n _ _ _ _ _ h hx hwt;obtain⟨u,u1,u2,u3,u4⟩:=dF (A:=aggT P t) k2 k3 (EN h hx);refine⟨rm (aggT P t) ds,⟨ds,k1,rfl⟩,?_⟩;have:u=v:=by
  cases hA:aggT P t with
  |true=>
   rw[u3 hA];unfold aggT at hA;split at hA
   ·rename_i hu;simp only[Value.okWide,hu]at hv;obtain⟨cs,rfl,_⟩:=hv;simp[Value.cells]
   ·rename_i hu;simp only[Value.okWide,hu]at hv;obtain⟨cs,rfl,_⟩:=hv;simp[Value.cells]
   ·cases hA
  |false=>
   obtain⟨c,hc,rfl⟩:=u4 hA
   cases n with
   |zero=>simp[shOf]at h
   |succ n=>
    simp only[shOf]at h;unfold aggT at hA;split at h
    ·rename_i hu;obtain⟨b,rfl⟩:=okWide_bool hu hv;simpa [Value.cells] using hc.symm
    ·rename_i hu;obtain⟨b,rfl⟩:=okWide_int hu hv;simpa [Value.cells] using hc.symm
    ·rename_i hu;obtain⟨b,rfl⟩:=okWide_string hu hv;simpa [Value.cells] using hc.symm
    ·rename_i hu;obtain⟨a,l,c',rfl⟩:=okWide_slice hu hv;simpa [Value.cells] using hc.symm
    ·rename_i hu;rw[hu]at hA;cases hA
    ·rename_i hu;rw[hu]at hA;cases hA
    ·cases h
 rw[←this];exact u1
end
theorem QE{G G':Gh}{w w':World}{m':List Ent}(h:Step G w [] G' w' m'):Below w.heap.size w w':=
 ⟨h.os,h.tape,h.output,h.size,fun k hk=>h.keep k hk fun⟨i,e,he,_⟩=>by simp at he⟩
theorem gok_tab{P:Program}{W:World}{name:String}(hg:P.globalNamed name=some 0) (hT:Go.Lib.TabIs P W name .i64 [31,28,31,30,31,30,31,31,30,31,30,31]):GOK (R0 W) W:=by
 intro g d h;unfold gtab at h;split at h
 ·injection h with h;subst h;have hc:=hT.cell hg;refine(by
   simp only[VRel];refine⟨0,0,.agg (([31,28,31,30,31,30,31,31,30,31,30,31]:List Int).map fun n=>Value.int .i64 n).toArray,rfl,?_,⟨_,rfl,?_,?_⟩,?_⟩
   ·exact jF (a:=⟨0,0,none⟩) (hc 0 (by decide))
   ·simp only[eab,Xac,VsRel,VRel];exact⟨_,_,rfl,rfl,_,_,rfl,rfl,_,_,rfl,rfl,_,_,rfl,rfl,_,_,rfl,rfl,_,_,rfl,rfl,_,_,rfl,rfl,_,_,rfl,rfl,_,_,rfl,rfl,_,_,rfl,rfl,_,_,rfl,rfl,_,_,rfl,rfl,rfl⟩
   ·intro c hc;simp only[eab,Xac,fab,List.not_mem_nil,or_false]at hc;rcases hc with rfl|rfl|rfl|rfl|rfl|rfl|rfl|rfl|rfl|rfl|rfl|rfl<;>rfl
   ·intro j c hj;have hj':(([31,28,31,30,31,30,31,31,30,31,30,31]:List Int).map fun n=>Value.int .i64 n)[j]?=some c:=by simpa [Value.cells] using hj
    obtain⟨hlt,hcj⟩:=Caa.1 hj';have hlt':j<([31,28,31,30,31,30,31,31,30,31,30,31]:List Int).length:=by simpa using hlt
    rw[List.getElem_map]at hcj;subst hcj;refine⟨rfl,?_⟩;rw[Xab,hc j hlt',uaa,iaa hlt'];rfl:VRel (R0 W) W (.pt (.agg ([31,28,31,30,31,30,31,31,30,31,30,31].map fun n=>.v (.int .i64 n)))) (.pointer (some ⟨0,0,none⟩)))
 ·cases h
theorem law_walk{P:Program}{f:FuncId}{ds:List D}{vs:List Value}{w:World}(h:CallT P f ds [] fun d _=>d=.v (.bool true)) (hv:VsRel (R0 w) w ds vs) (hg:GOK (R0 w) w) :
 Calls P f vs.toArray w fun e w'=>e=.returned (.bool true)∧Below w.heap.size w w':=by
 refine(h.2 (R0 w) w vs hv (Ev (fun _ h=>h) hg)).mono ?_;rintro e w' ⟨v,d,m',G',rfl,rfl,hvd,-,hs⟩;simp only[VRel]at hvd;subst hvd;exact⟨rfl,QE hs⟩
end Go.Tm
namespace Go.Tm
variable {P:Program}
theorem gV(op:BinOp) (j k:IntKind) (a b:Int):kf (binOp op 0 (.int j a) (.int k b))=xg op j a k b:=(uS ..).symm
theorem TR(k:IntKind) (n:Int):k.wrap n=ca k n:=(Qq k n).symm
end Go.Tm
namespace Go.Tm
variable {P:Program}
abbrev Im:=List (Option Nat×Nat×Nat)
def Eu(ρ:Im) (j:Nat):Bool:=ρ.all fun o=>match o.1 with|some k=>k !=j|none=>true
inductive Sbs (ρ:Im) (m:List Ent):List D→List D→Prop
 |nil:Sbs ρ m [] []
 |same {d l r} (hf:la d=true) (h:Sbs ρ m l r):Sbs ρ m (d::l) (d::r)
 |dead {d l r} (h:Sbs ρ m l r):Sbs ρ m (d::l) (.dead::r)
 |nils {S l r} (h:Sbs ρ m l r):Sbs ρ m (.v (.slice none 0 0)::l) (.sl S []::r)
 |ax {S u l r} (i:Nat) (hi:ρ[i]?=some (none,S,u)) (h:Sbs ρ m l r):Sbs ρ m (.v (.slice none 0 0)::l) (.own i u::r)
 |agg {a b l r} (ha:Sbs ρ m a b) (h:Sbs ρ m l r):Sbs ρ m (.agg a::l) (.agg b::r)
 |tup {a b l r} (ha:Sbs ρ m a b) (h:Sbs ρ m l r):Sbs ρ m (.tup a::l) (.tup b::r)
 |sl {S a b l r} (ha:Sbs ρ m a b) (h:Sbs ρ m l r):Sbs ρ m (.sl S a::l) (.sl S b::r)
 |own {j v u i l r} (hi:ρ[i]?=some (some j,v,u)) (h:Sbs ρ m l r):Sbs ρ m (.own j v::l) (.own i u::r)
 |ref {j v u i x s l r} (hi:ρ[i]?=some (some j,v,u)) (h:Sbs ρ m l r):Sbs ρ m (.ref j v x s::l) (.ref i u x s::r)
 |view {j v u i lo n l r} (hi:ρ[i]?=some (some j,v,u)) (h:Sbs ρ m l r):Sbs ρ m (.view j v lo n::l) (.view i u lo n::r)
 |mp {j i l r} (hi:ρ[i]?=some (some j,0,0)) (h:Sbs ρ m l r):Sbs ρ m (.mp j::l) (.mp i::r)
 |Vd {S j v a b l r} (hm:m[j]?=some (.live S v a)) (ho:Eu ρ j=true) (ha:Sbs ρ m a b) (h:Sbs ρ m l r):Sbs ρ m (.own j v::l) (.sl S b::r)
 |fview {S j v lo n a b l r} (hm:m[j]?=some (.live S v a)) (ho:Eu ρ j=true) (hn:lo+n≤a.length) (ha:Sbs ρ m ((a.drop lo).take n) b) (h:Sbs ρ m l r):Sbs ρ m (.view j v lo n::l) (.sl S b::r)
 |fref {S j v x a d e l r} (hm:m[j]?=some (.live S v a)) (ho:Eu ρ j=true) (hx:a[x]?=some d) (ha:Sbs ρ m [d] [e]) (h:Sbs ρ m l r):Sbs ρ m (.ref j v x 0::l) (.pt e::r)
 |pt {d e l r} (ha:Sbs ρ m [d] [e]) (h:Sbs ρ m l r):Sbs ρ m (.pt d::l) (.pt e::r)
 |fn {f a b c d l r} (ha:Sbs ρ m a b) (hc:Sbs ρ m c d) (h:Sbs ρ m l r):Sbs ρ m (.fn f a c::l) (.fn f b d::r)
 |ifc {t d e l r} (ha:Sbs ρ m [d] [e]) (h:Sbs ρ m l r):Sbs ρ m (.ifc t d::l) (.ifc t e::r)
def KR(es:List (Value×D)):Bool:=es.all fun p=>la p.2
inductive Ets (ρ:Im) (m:List Ent):Im→List Ent→Prop
 |nil:Ets ρ m [] []
 |live {j v u S l l' os es} (hm:m[j]?=some (.live S v l)) (hl:Sbs ρ m l l') (h:Ets ρ m os es):Ets ρ m ((some j,v,u)::os) (.live S u l'::es)
 |new {S u os es} (h:Ets ρ m os es):Ets ρ m ((none,S,u)::os) (.live S u []::es)
 |mp {j es os ees} (hm:m[j]?=some (.mp es)) (hf:KR es=true) (h:Ets ρ m os ees):Ets ρ m ((some j,0,0)::os) (.mp es::ees)
structure Tell (ρ:Im) (s S:St):Prop where
 t:Sbs ρ s.m s.t S.t
 m:Ets ρ s.m ρ S.m
 one:(ρ.filterMap (·.1)).Nodup
def vb(G:Gh) (m:List Ent) (ρ:Im):Gh where
 F b:=G.F b∨(me G m b∧∀(i j:Nat) v,ρ[i]?=some (some j,v)→G.B j≠some b)
 n:=ρ.length
 B i:=match ρ[i]? with|some (some j,_)=>G.B j|_=>none
 V i:=match ρ[i]? with|some (_,_,u)=>u|_=>0
 S i:=match ρ[i]? with|some (some j,_)=>G.S j|some (none,S,_)=>S|_=>0
 N i:=match ρ[i]? with|some (some j,_)=>G.N j|_=>0
 C i:=match ρ[i]? with|some (some j,_)=>G.C j|_=>(0,0)
theorem gU{ρ:Im}{j:Nat}(h:Eu ρ j=true):∀(i k:Nat) v,ρ[i]?=some (some k,v)→k≠j:=by
 intro i k v hi;unfold Eu at h;rw[Raa]at h;have:=h _ (kab hi);simpa using this
theorem nw{G:Gh}{w:World}{m:List Ent}{ρ:Im}(hi:Inv G w m) (hgo:∀(i j:Nat) v,ρ[i]?=some (some j,v)→∃e:Ent,m[j]?=some e∧e.isLive=true) {j:Nat}{e:Ent}(hm:m[j]?=some e) (hl:e.isLive=true) (ho:Eu ρ j=true) {b:Nat}(hb:G.B j=some b):(vb G m ρ).F b:=by
 refine .inr ⟨⟨j,e,hm,hl,hb⟩,fun i k v hik hB=>?_⟩;obtain⟨e',he',hl'⟩:=hgo i k v hik;exact gU ho i k v hik (hi.apart k j e' e he' hm hl' hl b hB hb)
theorem Sbs.length{ρ:Im}{m:List Ent}{l r:List D}(h:Sbs ρ m l r):l.length=r.length:=by
 induction h<;>simp_all
theorem Hu{ρ:Im}{i:Nat}{o:Option Nat×Nat×Nat}(h:ρ[i]?=some o):i<ρ.length:=by
 rcases Taa i ρ.length with h1|h1
 ·exact h1
 ·rw[Saa h1]at h;cases h
theorem Sbs.rel{G:Gh}{w:World}{m:List Ent}{ρ:Im}(hi:Inv G w m) (hgo:∀(i j:Nat) v,ρ[i]?=some (some j,v)→∃e:Ent,m[j]?=some e∧e.isLive=true∧(∀S v' l,e=.live S v' l→v'=v.1)) {l r:List D}(h:Sbs ρ m l r) :
 (∀us,VsRel G w l us→VsRel (vb G m ρ) w r us)∧(∀b S off,Ha G w b S l off→Ha (vb G m ρ) w b S r off):=by
 have hgo':∀(i j:Nat) v,ρ[i]?=some (some j,v)→∃e:Ent,m[j]?=some e∧e.isLive=true:=fun i j v h=>by obtain⟨e,h1,h2,_⟩:=hgo i j v h;exact⟨e,h1,h2⟩
 have both:∀{d e:D} {l r:List D},(∀u,VRel G w d u→VRel (vb G m ρ) w e u)→
  ((∀us,VsRel G w l us→VsRel (vb G m ρ) w r us)∧(∀b S off,Ha G w b S l off→Ha (vb G m ρ) w b S r off))→
  ((∀us,VsRel G w (d::l) us→VsRel (vb G m ρ) w (e::r) us)∧(∀b S off,Ha G w b S (d::l) off→Ha (vb G m ρ) w b S (e::r) off)):=by
  intro d e l r h1 h2;refine⟨fun us hv=>?_,fun b S off hv=>?_⟩
  ·simp only[VsRel]at hv⊢;obtain⟨u,us',rfl,g1,g2⟩:=hv;exact⟨u,us',rfl,h1 u g1,h2.1 us' g2⟩
  ·simp only[Ha]at hv⊢;obtain⟨⟨u,g1,g2,g3⟩,g4⟩:=hv;exact⟨⟨u,h1 u g1,g2,g3⟩,h2.2 b S _ g4⟩
 have first:∀{d e:D},(∀us,VsRel G w [d] us→VsRel (vb G m ρ) w [e] us)→∀u,VRel G w d u→VRel (vb G m ρ) w e u:=by
  intro d e h u hu;have:=h [u] (by simp only[VsRel];exact⟨u,[],rfl,hu,rfl⟩);simp only[VsRel]at this;obtain⟨u',us',he,h1,_⟩:=this;injection he with he _;rw[he];exact h1
 induction h with
 |nil=>exact⟨fun us h=>by simpa [VsRel] using h,fun _ _ _ _=>by simp[Ha]⟩
 |same hf h ih=>exact both (fun u hu=>VRel.free (G':=vb G m ρ) ⟨fun _ h=>Or.inl h,fun _ _=>rfl⟩ hf hu) ih
 |dead h ih=>exact both (fun u _=>by simp[VRel]) ih
 |nils h ih=>exact both (fun u hu=>by simp only[VRel]at hu⊢;exact⟨none,0,0,hu,rfl,yaa _,by simp⟩) ih
 |ax i hi' h ih=>
  refine both (fun u hu=>?_) ih;simp only[VRel]at hu⊢;exact⟨none,0,0,hu,Hu hi',by simp[vb,hi'],fun _=>by simp[vb,hi']⟩
 |agg ha h iha ih=>
  refine both (fun u hu=>?_) ih;simp only[VRel]at hu⊢;obtain⟨cs,rfl,g1,g2⟩:=hu;exact⟨cs,rfl,iha.1 cs g1,g2⟩
 |tup ha h iha ih=>
  refine both (fun u hu=>?_) ih;simp only[VRel]at hu⊢;obtain⟨cs,rfl,g1⟩:=hu;exact⟨cs,rfl,iha.1 cs g1⟩
 |sl ha h iha ih=>
  refine both (fun u hu=>?_) ih;simp only[VRel]at hu⊢;obtain⟨a,n,cap,rfl,hn,hc,g⟩:=hu;refine⟨a,n,cap,rfl,by rw[←ha.length];exact hn,hc,?_⟩;rcases g with rfl|⟨b,off,rfl,hF,hr⟩
  ·exact .inl (Eaa ha.length.symm)
  ·exact .inr ⟨b,off,rfl,.inl hF,iha.2 b _ off hr⟩
 |own hi' h ih=>
  refine both (fun u hu=>?_) ih;obtain⟨e,he,hl,hv⟩:=hgo _ _ _ hi';simp only[VRel]at hu⊢;obtain⟨a,n,c,rfl,g1,g2,g3⟩:=hu;refine⟨a,n,c,rfl,Hu hi',by simp[vb,hi'],fun _=>?_⟩;have hent:=hi.ent _ _ he
  cases e with
  |live S v' l'=>
   obtain⟨a1,_⟩:=hent;have:=g3 (by rw[a1,hv S v' l' rfl]);simpa [vb,hi'] using this
  |mp es=>
   obtain⟨a1,_⟩:=hent;have:=g3 (by omega);simpa [vb,hi'] using this
  |gone=>simp[Ent.isLive]at hl
 |ref hi' h ih=>
  refine both (fun u hu=>?_) ih;obtain⟨e,he,hl,hv⟩:=hgo _ _ _ hi';simp only[VRel]at hu⊢;obtain⟨a,rfl,g1,g2,g3⟩:=hu;refine⟨a,rfl,Hu hi',by simp[vb,hi'],fun _=>?_⟩;have hent:=hi.ent _ _ he
  cases e with
  |live S v' l'=>
   obtain⟨a1,_⟩:=hent;have:=g3 (by rw[a1,hv S v' l' rfl]);simpa [vb,hi'] using this
  |mp es=>
   obtain⟨a1,_⟩:=hent;have:=g3 (by omega);simpa [vb,hi'] using this
  |gone=>simp[Ent.isLive]at hl
 |view hi' h ih=>
  refine both (fun u hu=>?_) ih;obtain⟨e,he,hl,hv⟩:=hgo _ _ _ hi';simp only[VRel]at hu⊢;obtain⟨a,c,rfl,g0,g1,g2,g3⟩:=hu;refine⟨a,c,rfl,g0,Hu hi',by simp[vb,hi'],fun _=>?_⟩;have hent:=hi.ent _ _ he
  cases e with
  |live S v' l'=>
   obtain⟨a1,_⟩:=hent;have:=g3 (by rw[a1,hv S v' l' rfl]);simpa [vb,hi'] using this
  |mp es=>
   obtain⟨a1,_⟩:=hent;have:=g3 (by omega);simpa [vb,hi'] using this
  |gone=>simp[Ent.isLive]at hl
 |mp hi' h ih=>
  refine both (fun u hu=>?_) ih;simp only[VRel]at hu⊢;obtain⟨b,rfl,g1,g2⟩:=hu;obtain⟨e,he,hl,hv⟩:=hgo _ _ _ hi';have hent:=hi.ent _ _ he;refine⟨b,rfl,Hu hi',fun _=>?_⟩
  cases e with
  |live S v' l'=>
   obtain⟨a1,_⟩:=hent;have:=g2 (by rw[a1,hv S v' l' rfl]);simpa [vb,hi'] using this
  |mp es=>
   obtain⟨a1,_⟩:=hent;have:=g2 (by omega);simpa [vb,hi'] using this
  |gone=>simp[Ent.isLive]at hl
 |Vd hm ho ha h iha ih=>
  refine both (fun u hu=>?_) ih;obtain⟨a1,a2,a3,a4,a5⟩:=hi.ent _ _ hm;simp only[VRel]at hu⊢;obtain⟨a,n,c,rfl,g1,g2,g3⟩:=hu;obtain⟨rfl,rfl,rfl⟩:=g3 a1;refine⟨_,_,_,rfl,by rw[a3,ha.length],by rw[a3];exact a4,?_⟩;rcases a5 with a5|⟨b',cs,T,hb',hF,hblk,hsz,hrow⟩
  ·have h00:=congrArg Wad a5.2;dsimp only at h00;exact .inl (Eaa (by have:=ha.length;omega))
  ·exact .inr ⟨b',(G.C _).2,by rw[hb'];rfl,nw hi hgo' hm rfl ho hb',iha.2 b' _ _ hrow⟩
 |@fview S j v lo n a b l r hm ho hn ha h iha ih=>
  refine both (fun u hu=>?_) ih;obtain⟨a1,a2,a3,a4,a5⟩:=hi.ent _ _ hm;simp only[VRel]at hu⊢;obtain⟨p,c,rfl,hnc,hid,hver,hx⟩:=hu;have hlen:=ha.length;rw[List.length_take,List.length_drop]at hlen;refine⟨p,_,c,rfl,by omega,hnc,?_⟩;rcases hx a1 with rfl|⟨b,hb,rfl⟩
  ·exact .inl (Eaa (by omega))
  ·rcases a5 with a5|⟨b',cs,T,hb',hF,hblk,hsz,hrow⟩
   ·rw[a5.1]at hb;cases hb
   ·rw[hb]at hb';injection hb' with hb';subst hb';refine .inr ⟨_,_,rfl,nw hi hgo' hm rfl ho hb,iha.2 _ _ _ ?_⟩;have:=Ko (Wo hrow lo) n;rw[a2];rwa [Eab]at this
 |fref hm ho hx ha h iha ih=>
  refine both (fun u hu=>?_) ih;obtain⟨a1,a2,a3,a4,a5⟩:=hi.ent _ _ hm;simp only[VRel]at hu⊢;obtain⟨p,rfl,hid,hver,hp⟩:=hu;obtain⟨b,hb,rfl⟩:=hp a1;rcases a5 with a5|⟨b',cs,T,hb',hF,hblk,hsz,hrow⟩
  ·rw[a5.1]at hb;cases hb
  ·rw[hb]at hb';injection hb' with hb';subst hb';obtain⟨u,k1,k2,k3⟩:=ld.1 hrow _ _ hx;refine⟨b,_,u,rfl,nw hi hgo' hm rfl ho hb,first iha.1 u k1,?_⟩;rw[a2,Jab];rwa [Eab]at k3
 |pt ha h iha ih=>
  refine both (fun u hu=>?_) ih;simp only[VRel]at hu⊢;obtain⟨b,off,x,rfl,hF,hd,hh⟩:=hu;exact⟨b,off,x,rfl,.inl hF,first iha.1 x hd,hh⟩
 |fn ha hc h iha ihc ih=>
  refine both (fun u hu=>?_) ih;simp only[VRel]at hu⊢;obtain⟨fs,cs,rfl,h1,h2⟩:=hu;exact⟨fs,cs,rfl,iha.1 fs h1,ihc.1 cs h2⟩
 |ifc ha h iha ih=>
  refine both (fun u hu=>?_) ih;simp only[VRel]at hu⊢;obtain⟨x,rfl,hd⟩:=hu;exact⟨x,rfl,first iha.1 x hd⟩
theorem Ets.get{ρ:Im}{m:List Ent}{os:Im}{es:List Ent}(h:Ets ρ m os es):os.length=es.length∧∀(i:Nat) e,es[i]?=some e→
 (∃j v u S l l',os[i]?=some (some j,v,u)∧m[j]?=some (.live S v l)∧Sbs ρ m l l'∧e=.live S u l')∨(∃S u,os[i]?=some (none,S,u)∧e=.live S u [])∨(∃j l,os[i]?=some (some j,0,0)∧m[j]?=some (.mp l)∧KR l=true∧e=.mp l):=by
 induction h with
 |nil=>exact⟨rfl,fun i e h=>by simp at h⟩
 |live hm hl h ih=>
  refine⟨by simp[ih.1],fun i e he=>?_⟩
  cases i with
  |zero=>simp only[Waa,zaa]at he;exact .inl ⟨_,_,_,_,_,_,rfl,hm,hl,he.symm⟩
  |succ i=>simpa using ih.2 i e (by simpa using he)
 |new h ih=>
  refine⟨by simp[ih.1],fun i e he=>?_⟩
  cases i with
  |zero=>simp only[Waa,zaa]at he;exact .inr (.inl ⟨_,_,rfl,he.symm⟩)
  |succ i=>simpa using ih.2 i e (by simpa using he)
 |mp hm hf h ih=>
  refine⟨by simp[ih.1],fun i e he=>?_⟩
  cases i with
  |zero=>simp only[Waa,zaa]at he;exact .inr (.inr ⟨_,_,rfl,hm,hf,he.symm⟩)
  |succ i=>simpa using ih.2 i e (by simpa using he)
theorem Ets.src{ρ:Im}{m:List Ent}{os:Im}{es:List Ent}(h:Ets ρ m os es):∀(i j:Nat) v,os[i]?=some (some j,v)→∃e:Ent,m[j]?=some e∧e.isLive=true∧(∀S v' l,e=.live S v' l→v'=v.1):=by
 induction h with
 |nil=>intro i j v h;simp at h
 |live hm hl h ih=>
  intro i j v hi
  cases i with
  |zero=>
   simp only[Waa,zaa,Aaa]at hi;obtain⟨rfl,rfl⟩:=hi;exact⟨_,hm,rfl,fun S v' l he=>by injection he with _ he _;exact he.symm⟩
  |succ i=>exact ih i j v (by simpa using hi)
 |new h ih=>
  intro i j v hi
  cases i with
  |zero=>simp at hi
  |succ i=>exact ih i j v (by simpa using hi)
 |mp hm hf h ih=>
  intro i j v hi
  cases i with
  |zero=>
   simp only[Waa,zaa,Aaa]at hi;obtain⟨rfl,rfl⟩:=hi;exact⟨_,hm,rfl,fun S v' l he=>nomatch he⟩
  |succ i=>exact ih i j v (by simpa using hi)
theorem Yc.free{G G':Gh}{w:World}(hG:∀b,G.F b→G'.F b):∀{l:List (Value×D)}{es:List MapEntry},KR l=true→Yc G w l es→Yc G' w l es
 |[],es,_,h=>h
 |(k,d)::l,es,hf,h=>by
  simp only[KR,tac,paa]at hf;obtain⟨e,r,h0,h1,h2,h3⟩:=h;exact⟨e,r,h0,h1,VRel.free (G':=G') ⟨fun _ h=>hG _ h,fun _ _=>rfl⟩ hf.1 h2,Yc.free hG hf.2 h3⟩
theorem jJ{ρ:Im}(h:(ρ.filterMap (·.1)).Nodup):∀(i i' j:Nat) v v',ρ[i]?=some (some j,v)→ρ[i']?=some (some j,v')→i=i':=by
 induction ρ with
 |nil=>intro i i' j v v' h;simp at h
 |cons o os ih=>
  have hmem:∀(i:Nat) j v,os[i]?=some (some j,v)→j∈os.filterMap (·.1):=fun i j v hi=>List.mem_filterMap.2 ⟨_,kab hi,rfl⟩;intro i i' j v v' hi hi';obtain⟨o1,o2⟩:=o
  cases o1 with
  |none=>
   have h':(os.filterMap (·.1)).Nodup:=by simpa using h
   cases i with
   |zero=>simp at hi
   |succ i=>
    cases i' with
    |zero=>simp at hi'
    |succ i'=>rw[ih h' i i' j v v' (by simpa using hi) (by simpa using hi')]
  |some k=>
   have h:(k::os.filterMap (·.1)).Nodup:=by simpa using h
   rw[List.nodup_cons]at h
   cases i with
   |zero=>
    cases i' with
    |zero=>rfl
    |succ i'=>
     simp only[Waa,zaa,Aaa]at hi;exact(h.1 (hi.1▸hmem i' j v' (by simpa using hi'))).elim
   |succ i=>
    cases i' with
    |zero=>
     simp only[Waa,zaa,Aaa]at hi';exact(h.1 (hi'.1▸hmem i j v (by simpa using hi))).elim
    |succ i'=>rw[ih h.2 i i' j v v' (by simpa using hi) (by simpa using hi')]
def Vs(ρ:Im):Nat→Bool
 |0=>true
 |n+1=>Vs ρ n&&(match ρ[n]? with|some (some j,v,u)=>j==n&&u==v|_=>false)
theorem Ew{ρ:Im}:∀{n:Nat},Vs ρ n=true→∀i,i<n→∃v,ρ[i]?=some (some i,v,v)
 |0,_,i,hi=>absurd hi (Lad i)
 |n+1,h,i,hi=>by
  simp only[Vs,paa]at h;rcases Taa i n with h1|h1
  ·exact Ew h.1 i h1
  ·obtain rfl:i=n:=by omega
   have h2:=h.2;split at h2
   ·rename_i j v u hj;simp only[paa,beq_iff_eq]at h2;obtain⟨rfl,rfl⟩:=h2;exact⟨_,hj⟩
   ·cases h2
theorem Ru{N:Nat}{ρ:Im}{s S:St}(hk:Vs ρ N=true) (h:Tell ρ s S) {G:Gh}{w:World}{a:Act}(hr:Rel G w a s):Rel (vb G s.m ρ) w a S∧StepN N G w s.m (vb G s.m ρ) w S.m:=by
 have hi:=hr.inv;have hgo:=h.m.src;have hget:=h.m.get;have hrow:∀{l r:List D},Sbs ρ s.m l r→∀b S off,Ha G w b S l off→Ha (vb G s.m ρ) w b S r off:=fun hs=>(hs.rel hi hgo).2;have hown:∀b,me (vb G s.m ρ) S.m b→me G s.m b:=by
  rintro b ⟨i,e,he,hl,hB⟩;rcases hget.2 i e he with⟨j,v,u,S',l,l',h1,h2,h3,rfl⟩|⟨S',u,h1,rfl⟩|⟨j,l,h1,h2,h3,rfl⟩
  ·exact⟨j,_,h2,rfl,by simpa [vb,h1] using hB⟩
  ·simp[vb,h1]at hB
  ·exact⟨j,_,h2,rfl,by simpa [vb,h1] using hB⟩
 refine⟨⟨(h.t.rel hi hgo).1 _ hr.t,⟨hget.1,?_,?_,?_,hi.gl.bare fun _ h=>.inl h⟩,hr.defers⟩,⟨fun _ hb=>.inl hb,fun _ _=>rfl,?_,?_,rfl,rfl,rfl,yaa _,fun _ _ _=>rfl,?_,fun b _ hb=>hown b hb⟩⟩
 ·rintro b (hb|hb)
  ·exact hi.F b hb
  ·exact(me.lt hi hb.1).1
 ·intro i e he;rcases hget.2 i e he with⟨j,v,u,S',l,l',h1,h2,h3,rfl⟩|⟨S',u,h1,rfl⟩|⟨j,l,h1,h2,h3,rfl⟩
  rotate_left 2
  ·obtain⟨a1,b',en,cl,hb',hF,hblk,hrw⟩:=hi.ent _ _ h2;refine⟨by simp[vb,h1],b',en,cl,by simpa [vb,h1] using hb',?_,hblk,Yc.free (G':=vb G s.m ρ) (fun _ h=>Or.inl h) h3 hrw⟩;rintro(hb|⟨_,hb⟩)
   ·exact hF hb
   ·exact hb i j (0,0) h1 hb'
  ·obtain⟨a1,a2,a3,a4,a5⟩:=hi.ent _ _ h2;have hlen:=h3.length;refine⟨by simp[vb,h1],by simpa [vb,h1] using a2,by simp[vb,h1];omega,by simp[vb,h1];omega,?_⟩;rcases a5 with a5|⟨b',cs,T,hb',hF,hblk,hsz,hrw⟩
   ·exact .inl (by simpa [vb,h1] using a5)
   ·refine .inr ⟨b',cs,T,by simpa [vb,h1] using hb',?_,hblk,by simpa [vb,h1] using hsz,by simpa [vb,h1] using hrow h3 _ _ _ hrw⟩;rintro(hb|⟨_,hb⟩)
    ·exact hF hb
    ·exact hb i j (v,u) h1 hb'
  ·exact⟨by simp[vb,h1],by simp[vb,h1],by simp[vb,h1],by simp,.inl (by simp[vb,h1])⟩
 ·intro i i' e e' he he' hl hl' b hb hb';have src:∀(i:Nat) e,S.m[i]?=some e→(vb G s.m ρ).B i=some b→∃j v e0,ρ[i]?=some (some j,v)∧s.m[j]?=some e0∧e0.isLive=true∧G.B j=some b:=by
   intro i e he hb;rcases hget.2 i e he with⟨j,v,u,S1,l,l',h1,h2,h3,rfl⟩|⟨S1,u,h1,rfl⟩|⟨j,l,h1,h2,h3,rfl⟩
   ·exact⟨j,_,_,h1,h2,rfl,by simpa [vb,h1] using hb⟩
   ·simp[vb,h1]at hb
   ·exact⟨j,_,_,h1,h2,rfl,by simpa [vb,h1] using hb⟩
  obtain⟨j,v,e0,h1,h2,h3,h4⟩:=src i e he hb;obtain⟨j',v',e0',g1,g2,g3,g4⟩:=src i' e' he' hb';have hj:j=j':=hi.apart j j' _ _ h2 g2 h3 g3 b h4 g4;subst hj;exact jJ h.one _ _ _ _ _ h1 g1
 ·cases N with
  |zero=>exact Bab _
  |succ n=>
   obtain⟨v,hv⟩:=Ew hk n (kae n);exact Hu hv
 ·intro i hiN;obtain⟨v,hv⟩:=Ew hk i hiN;obtain⟨e,he,hl,hver⟩:=hgo _ _ _ hv;have hent:=hi.ent _ _ he;have hV:G.V i=v:=by
   rcases hget.2 i _ (iaa (by rw[←hget.1];exact Hu hv))with⟨j,v',u,S',l,l',h1,h2,h3,h4⟩|⟨S',u,h1,h4⟩|⟨j,l,h1,h2,h3,h4⟩
   ·rw[hv]at h1;injection h1 with h1;injection h1 with h5 h1;injection h5 with h5;injection h1 with h1 h6;subst h5;subst h1;exact(hi.ent _ _ h2).1
   ·rw[hv]at h1;injection h1 with h1;injection h1 with h1;cases h1
   ·rw[hv]at h1;injection h1 with h1;injection h1 with h5 h1;injection h5 with h5;injection h1 with h1 h6;subst h5;subst h1;exact(hi.ent _ _ h2).1
  exact .inl (by simp[vb,hv,hV])
 ·rintro b _ (hb|⟨hb,_⟩)
  ·exact .inl hb
  ·exact .inr hb
theorem T.tell{N:Nat}(ρ:Im) {c:C}{K:Exit→St→Prop}{s S:St}(hk:Vs ρ N=true) (h:Tell ρ s S) (hT:Tm.T P N c K S):Tm.T P N c K s:=
 T.ghost (fun G w a _ hr=>⟨_,(Ru hk h hr).1,(Ru hk h hr).2⟩) hT
end Go.Tm
namespace Go.Tm
variable {P:Program} {N:Nat}
inductive Ex (σ β ρ:Type) where
 |go (s:σ)
 |brk (b:β)
 |ret (v:ρ)
section
variable {σ β ρ:Type}
def Fm(step:σ→Option (Ex σ β ρ)):Nat→σ→Option (β⊕ρ)
 |0,_=>none
 |n+1,s=>
  match step s with
  |none=>none
  |some (.go s')=>Fm step n s'
  |some (.brk b)=>some (.inl b)
  |some (.ret v)=>some (.inr v)
theorem Du{step:σ→Option (Ex σ β ρ)}:∀{n:Nat}{s:σ}{r},Fm step n s=some r→∀k,Fm step (n+k) s=some r
 |0,s,r,h,k=>by simp[Fm]at h
 |n+1,s,r,h,k=>by
  rw[show n+1+k=(n+k)+1 by omega];simp only[Fm]at h⊢;split
  ·rename_i h';rw[h']at h;exact h
  ·rename_i h';rw[h']at h;exact Du h k
  ·rename_i h';rw[h']at h;exact h
  ·rename_i h';rw[h']at h;exact h
open Classical in
noncomputable def ia(step:σ→Option (Ex σ β ρ)) (s:σ):Option (β⊕ρ):=
 if h:∃n r,Fm step n s=some r then some h.choose_spec.choose else none
theorem wA{step:σ→Option (Ex σ β ρ)}{s:σ}{n:Nat}{r}(h:Fm step n s=some r):ia step s=some r:=by
 have hex:∃n r,Fm step n s=some r:=⟨n,r,h⟩;unfold ia;rw[dif_pos hex];have h1:=Du hex.choose_spec.choose_spec n;have h2:=Du h hex.choose;rw[Eab,h2]at h1;rw[zaa];exact(Uaa h1).symm
theorem RB{step:σ→Option (Ex σ β ρ)}{s:σ}{r}:ia step s=some r↔∃n,Fm step n s=some r:=by
 constructor
 ·intro h;unfold ia at h;split at h
  ·rename_i hex;rw[zaa]at h;exact⟨hex.choose,h▸hex.choose_spec.choose_spec⟩
  ·cases h
 ·rintro⟨n,h⟩;exact wA h
theorem Xe{step:σ→Option (Ex σ β ρ)}{s s':σ}(h:step s=some (.go s')):ia step s=ia step s':=by
 apply Option.ext;intro r;simp only[RB];constructor
 ·rintro⟨n,hn⟩
  cases n with
  |zero=>simp[Fm]at hn
  |succ n=>exact⟨n,by simpa [Fm,h] using hn⟩
 ·rintro⟨n,hn⟩;exact⟨n+1,by simpa [Fm,h] using hn⟩
theorem Nb{step:σ→Option (Ex σ β ρ)}{s:σ}{b:β}(h:step s=some (.brk b)):ia step s=some (.inl b):=wA (n:=1) (by simp[Fm,h])
theorem Sl{step:σ→Option (Ex σ β ρ)}{s:σ}{v:ρ}(h:step s=some (.ret v)):ia step s=some (.inr v):=wA (n:=1) (by simp[Fm,h])
end
inductive Tells (N:Nat):St→St→Prop
 |refl (s:St):Tells N s s
 |step {s s' S:St} (ρ:Im) (hk:Vs ρ N=true) (h:Tell ρ s s') (t:Tells N s' S):Tells N s S
theorem Tells.one{s S:St}(ρ:Im) (hk:Vs ρ N=true) (h:Tell ρ s S):Tells N s S:=.step ρ hk h (.refl S)
theorem Tells.trans{a b c:St}(h:Tells N a b) (k:Tells N b c):Tells N a c:=by
 induction h with
 |refl=>exact k
 |step ρ hk h t ih=>exact .step ρ hk h (ih k)
theorem T.vA{c:C}{K:Exit→St→Prop}{s S:St}(h:Tells N s S) (hT:Tm.T P N c K S):Tm.T P N c K s:=by
 induction h with
 |refl=>exact hT
 |step ρ hk h t ih=>exact T.tell ρ hk h (ih hT)
def uU(N:Nat) (K:Exit→St→Prop):Prop:=∀s S,Tells N s S→K .normal S→K .normal s
theorem w5{b:C}{K:Exit→St→Prop}:uU N (KS P N b K):=fun s S h k=>T.vA h k
theorem T6{id:Nat}{K:Exit→St→Prop}(h:uU N K):uU N (KB id K):=h
def KL{σ β ρ:Type}(N id:Nat) (K:Exit→St→Prop) (S:σ→St) (B:β→St) (z:Ex σ β ρ) (e:Exit) (s':St):Prop:=
 match e with
 |.normal=>match z with|.go x=>Tells N s' (S x)|_=>False
 |.exit j=>if j=id then(match z with|.brk b=>Tells N s' (B b)|_=>False)else K (.exit j) s'
 |e=>K e s'
section
variable {σ β ρ:Type} {id:Nat} {K:Exit→St→Prop} {S:σ→St} {B:β→St} {s':St}
theorem yU{x:σ}:KL N id K S B (.go x:Ex σ β ρ) .normal s'=Tells N s' (S x):=kaa rfl rfl
theorem mX{b:β}{j:Nat}:KL N id K S B (.brk b:Ex σ β ρ) (.exit j) s'=if j=id then Tells N s' (B b)else K (.exit j) s':=kaa rfl rfl
theorem CV{z:Ex σ β ρ}:KL N id K S B z .ret s'=K .ret s':=kaa rfl rfl
theorem KV{v:ρ}{j:Nat}:KL N id K S B (.ret v:Ex σ β ρ) (.exit j) s'=if j=id then False else K (.exit j) s':=kaa rfl rfl
theorem TZ{z:Ex σ β ρ}:uU N (KL N id K S B z):=by
 intro s S' h k
 cases z with
 |go x=>exact h.trans k
 |_=>exact k.elim
theorem T.ia{x:C}{s:St}(S:σ→St) (B:β→St) (step:σ→Option (Ex σ β ρ)) (x0:σ) {y:β⊕ρ}(hy:Tm.ia step x0=some y) (hs:Tells N s (S x0)) (hst:uU N K)
 (round:∀a z,step a=some z→(∀v,z=.ret v→y=.inr v)→Tm.T P N x (KL N id K S B z) (S a))
 (rest:∀b,y=.inl b→K .normal (B b)):Tm.T P N (.block id (.loop x)) K s:=by
 obtain⟨n,hn⟩:=RB.1 hy;clear hy;refine T.block (T.RU (X:=Nat×σ) (fun p s=>Tells N s (S p.2)∧Fm step p.1 p.2=some y) (fun p=>p.1) (n,x0) ⟨hs,hn⟩ ?_);rintro⟨n,x1⟩ s1 ⟨hs1,hn1⟩;refine T.vA hs1 ?_
 cases n with
 |zero=>simp[Fm]at hn1
 |succ n=>
  cases hz:step x1 with
  |none=>simp[Fm,hz]at hn1
  |some z=>
   simp only[Fm,hz]at hn1;refine(round x1 z hz (fun v hv=>by subst hv;exact(Uaa hn1).symm)).mono ?_;intro e s' h
   cases e with
   |normal=>
    cases z with
    |go x2=>exact⟨(n,x2),⟨by simpa [yU] using h,hn1⟩,kae n⟩
    |_=>exact(h:False).elim
   |exit j=>
    simp only[KL]at h⊢;split
    ·rename_i hj;rw[if_pos hj]at h
     cases z with
     |brk b=>exact hst _ _ h (rest b (Uaa hn1).symm)
     |_=>exact h.elim
    ·rename_i hj;rw[if_neg hj]at h;exact h
   |ret=>exact h
   |_=>exact h
end
def KJ{X R:Type}(N:Nat) (K:Exit→St→Prop) (S:X→St) (z:X⊕R) (e:Exit) (s':St):Prop:=
 match e with
 |.normal=>match z with|.inl x=>Tells N s' (S x)|.inr _=>False
 |e=>K e s'
section
variable {X R:Type} {K:Exit→St→Prop} {S:X→St} {s':St}
theorem yB{x:X}:KJ N K S (.inl x:X⊕R) .normal s'=Tells N s' (S x):=kaa rfl rfl
theorem WS{z:X⊕R}{j:Nat}:KJ N K S z (.exit j) s'=K (.exit j) s':=kaa rfl rfl
theorem sY{z:X⊕R}:KJ N K S z .ret s'=K .ret s':=kaa rfl rfl
theorem D7{z:X⊕R}:uU N (KJ N K S z):=by
 intro s S' h k
 cases z with
 |inl x=>exact h.trans k
 |inr _=>exact k.elim
theorem T.join{a b:C}{s:St}(S:X→St) (z:X⊕R) (ha:Tm.T P N a (KJ N K S z) s) (hb:∀x,z=.inl x→Tm.T P N b K (S x)):Tm.T P N (.seq a b) K s:=by
 refine T.seq (ha.mono ?_);intro e s' h
 cases e with
 |normal=>
  cases z with
  |inl x=>exact T.vA (by simpa [yB] using h) (hb x rfl)
  |inr _=>exact(h:False).elim
 |_=>exact h
end
end Go.Tm
namespace Go.Tm
variable {P:Program}
def Den(P:Program) (k:Nat) (ds:List D) (o:D):Prop:=∀m,CallT P k ds m fun d m'=>d=o∧m'=m
theorem jz{m:List Ent}{l r:List D}(h:Sbs [] m l r):fa r=true:=by
 induction h<;>simp_all[fa,la]
theorem Sbs.v{ρ:Im}{m:List Ent}{x:Value}{l r:List D}(h:Sbs ρ m l r):Sbs ρ m (.v x::l) (.v x::r):=.same rfl h
theorem Sbs.free{ρ:Im}{m:List Ent}:∀{l:List D},fa l=true→Sbs ρ m l l
 |[],_=>.nil
 |d::l,h=>by simp only[fa,paa]at h;exact .same h.1 (Sbs.free h.2)
theorem Sbs.app{ρ:Im}{m:List Ent}{a b c d:List D}(h1:Sbs ρ m a b) (h2:Sbs ρ m c d):Sbs ρ m (a++c) (b++d):=by
 induction h1 with
 |nil=>exact h2
 |same hf h ih=>exact .same hf ih
 |dead h ih=>exact .dead ih
 |nils h ih=>exact .nils ih
 |ax i hi h ih=>exact .ax i hi ih
 |agg ha h _ ih=>exact .agg ha ih
 |tup ha h _ ih=>exact .tup ha ih
 |sl ha h _ ih=>exact .sl ha ih
 |own hi h ih=>exact .own hi ih
 |ref hi h ih=>exact .ref hi ih
 |view hi h ih=>exact .view hi ih
 |mp hi h ih=>exact .mp hi ih
 |Vd hm ho ha h _ ih=>exact .Vd hm ho ha ih
 |fview hm ho hn ha h _ ih=>exact .fview hm ho hn ha ih
 |fref hm ho hx ha h _ ih=>exact .fref hm ho hx ha ih
 |pt ha h _ ih=>exact .pt ha ih
 |fn ha hc h _ _ ih=>exact .fn ha hc ih
 |ifc ha h _ ih=>exact .ifc ha ih
class Fr {α:Type} (e:α→D):Prop where
 h:∀x,la (e x)=true
theorem av{α:Type}{e:α→D}(h:∀x,la (e x)=true):∀l:List α,fa (l.map e)=true
 |[]=>rfl
 |x::l=>by simp[fa,h x,av h l]
theorem Fr.l{α:Type}{e:α→D} [Fr e] (l:List α):fa (l.map e)=true:=av Fr.h l
theorem Fr.s{α:Type}{e:α→D} [Fr e] (S:Nat) (l:List α):la (.sl S (l.map e))=true:=Fr.l (e:=e) l
theorem Um{N:Nat}{s S:St}(h:Tells N s S):∀{G:Gh}{w:World}{a:Act},N≤G.n→Rel G w a s→∃G',Rel G' w a S∧StepN N G w s.m G' w S.m:=by
 induction h with
 |refl s=>exact fun hN hr=>⟨_,hr,StepN.refl _ _ _ hN⟩
 |step ρ hk h t ih=>
  intro G w a hN hr;obtain⟨h1,h2⟩:=Ru hk h hr;obtain⟨G',h3,h4⟩:=ih h2.n h1;exact⟨G',h3,h2.trans h4⟩
def YA(rs:List RV) (o:D) (e:Exit) (s:St):Prop:=
 match e with
 |.normal=>∃S,Tells 0 s S∧∃ds,Xa S rs=some ds∧Sbs [] S.m [Gk ds] [o]
 |.ret=>∃S,Tells 0 s S∧∃ds,Xa S rs=some ds∧Sbs [] S.m [Gk ds] [o]
 |_=>False
def lE(r:Option (List D)) (m:List Ent) (o:D):Prop:=∃ds,r=some ds∧Sbs [] m [Gk ds] [o]
def Fin(m:List Ent) (d o:D):Prop:=Sbs [] m [d] [o]
theorem ow{ds:List D}{m:List Ent}{o:D}:lE (some ds) m o=Fin m (Gk ds) o:=by simp[lE,Fin]
@[congr] theorem BX{r r':Option (List D)} {m:List Ent} {o:D} (h:r=r'):lE r m o=lE r' m o:=by rw[h]
theorem tB{rs:List RV}{o:D}{s:St}(h:lE (Xa s rs) s.m o):YA rs o .ret s:=by
 obtain⟨ds,h1,h2⟩:=h;exact⟨s,.refl s,ds,h1,h2⟩
theorem W7{rs:List RV}{o:D}:uU 0 (YA rs o):=by
 rintro s S h ⟨S',h1,h2⟩;exact⟨S',h.trans h1,h2⟩
theorem AE{f:FuncId}{ds:List D}{o:D}(hf:fa ds=true) (h:CallT P f ds [] fun d m'=>Sbs [] m' [d] [o]):Den P f ds o:=by
 refine fun m=>⟨h.1,fun G w vs hv hi=>?_⟩;have h0:=h.2 (Gh.bare G.F) w vs (VsRel.free (G:=G) (G':=Gh.bare G.F) ⟨fun _ h=>h,fun _ _=>rfl⟩ hf hv) (Ev hi.F (hi.gl.bare fun _ h=>h));refine h0.mono ?_;rintro e w' ⟨v,d,m',G',rfl,hR,hvd,hi',hs⟩;obtain⟨-,-,h3⟩:=iC hi hs hi' (fun _ h=>h);obtain⟨g1,g2⟩:=h3 fun _ h=>h;refine⟨v,o,m,_,rfl,⟨rfl,rfl⟩,?_,g1,g2⟩;have hT:=(hR.rel hi' (fun i j v h=>by simp at h)).1 [v] (by simp only[VsRel];exact⟨v,[],rfl,hvd,rfl⟩);simp only[VsRel]at hT;obtain⟨u,us,he,h1,_⟩:=hT;injection he with he _;subst he;have hfree:=jz hR;simp only[fa,Gaa]at hfree;refine VRel.free (G:=vb G' m' []) (G':={ G with F:=fun b=>G'.F b∨me G' m' b }) ⟨?_,fun _ _=>rfl⟩ hfree h1;rintro b (hb|⟨hb,_⟩)
 ·exact .inl hb
 ·exact .inr hb
theorem Den.of{k:Nat}{F:Fun}{ds:List D}{o:D}(hF:vq P k=some F) (hname:((P.funcs[k]?).map fun fn=>fn.name == "runtime.NumGoroutine")=some false) (hf:fa ds=true)
 (h:T P 0 F.code (YA F.results o) ⟨ds++maa (F.ntmps-ds.length) .dead,[]⟩):Den P k ds o:=by
 refine AE hf (Xh hF hname ?_);refine T.JM (h.mono ?_);have key:∀(e:Exit) (s:St),(∀s',Pu F.results (fun d m'=>Sbs [] m' [d] [o]) e s' = ∃ds,Xa s' F.results=some ds∧Sbs [] s'.m [Gk ds] [o])→(∃S,Tells 0 s S∧∃ds,Xa S F.results=some ds∧Sbs [] S.m [Gk ds] [o])→xE 0 (Pu F.results fun d m'=>Sbs [] m' [d] [o]) e s:=by
  intro e s he ⟨S,h1,h2⟩ G w a hN hr;obtain⟨G',h3,h4⟩:=Um h1 hN hr;exact⟨S,G',by rw[he];exact h2,h3,h4⟩
 intro e s hs
 cases e with
 |normal=>exact key _ s (fun _=>rfl) hs
 |ret=>exact key _ s (fun _=>rfl) hs
 |_=>exact(hs:False).elim
theorem Ou{k:Nat}{ds ds':List D}{o:D}{m:List Ent}{f:D→List Ent→Prop}(h:Den P k ds' o) (hs:Sbs [] m ds ds') (hfl:flat o=true) (hf:f o m):qe P k ds m f:=by
 refine Ub (m1:=m) (d1:=o) ⟨(h []).1,fun G w vs hv hi=>?_⟩ hf;have hv1:=(hs.rel hi (fun i j v h=>by simp at h)).1 vs hv;have hv':VsRel (Gh.bare (vb G m []).F) w ds' vs:=VsRel.free (G:=vb G m []) ⟨fun _ h=>h,fun _ _=>rfl⟩ (jz hs) hv1;have h0:=(h []).2 _ w vs hv' (Ev (fun b hb=>by
  rcases hb with hb|⟨hb,_⟩
  ·exact hi.F b hb
  ·exact(me.lt hi hb).1) (hi.gl.bare fun _ h=>.inl h))
 refine h0.mono ?_;rintro e w' ⟨v,d,m',G',rfl,⟨rfl,-⟩,hvd,hi',hs'⟩;obtain⟨-,h2,-⟩:=iC hi hs' hi' (fun _ h=>.inl h);exact⟨v,d,m,G,rfl,⟨rfl,rfl⟩,hvd.flat hfl,h2.1,h2.2⟩
def idx{α:Type}(l:List α) (i:Int):Option α:=if 0≤i then l[i.toNat]? else none
def app{α:Type}(b:Nat) (l r:List α):Option (List α):=if(l.length+r.length)*b≤2 ^ 47 then some (l++r)else none
def put{α:Type}(l:List α) (i:Int) (x:α):Option (List α):=if 0≤i∧i.toNat<l.length then some (l.set i.toNat x)else none
def au{α:Type}(b:Nat) (x:α) (n c:Int):Option (List α):=if 0≤n∧n≤c∧c≤2 ^ 62∧c.toNat*b≤2 ^ 48 then some (maa n.toNat x)else none
def quo(k:IntKind) (a b:Int):Option Int:=if b=0 then none else some (ca k (a.tdiv b))
def rem(k:IntKind) (a b:Int):Option Int:=if b=0 then none else some (a.tmod b)
theorem As{α:Type}{l:List α}{i:Int}{x:α}(h:idx l i=some x):0≤i∧l[i.toNat]?=some x:=by
 unfold idx at h;split at h
 ·exact⟨by assumption,h⟩
 ·cases h
theorem jO{α:Type}{b:Nat}{l r x:List α}(h:app b l r=some x):(l.length+r.length)*b≤140737488355328∧x=l++r:=by
 unfold app at h;split at h
 ·exact⟨by assumption,(Uaa h).symm⟩
 ·cases h
theorem UP{α:Type}{l x:List α}{i:Int}{y:α}(h:put l i y=some x):0≤i∧i.toNat<l.length∧x=l.set i.toNat y:=by
 unfold put at h;split at h
 ·rename_i hc;exact⟨hc.1,hc.2,(Uaa h).symm⟩
 ·cases h
theorem uP{α:Type}{b:Nat}{x:α}{n c:Int}{l:List α}(h:au b x n c=some l):0≤n∧n≤c∧c≤4611686018427387904∧c.toNat*b≤281474976710656∧l=maa n.toNat x:=by
 unfold au at h;split at h
 ·rename_i hc;exact⟨hc.1,hc.2.1,hc.2.2.1,hc.2.2.2,(Uaa h).symm⟩
 ·cases h
theorem rk{α β:Type}{o:Option α}{f:α→Option β}{r:β}(h:o.bind f=some r):∃x,o=some x∧f x=some r:=rac.1 h
end Go.Tm
namespace Go.Tm
variable {P:Program} {N:Nat}
def Tx(f:D→D→Prop):List D→List D→Prop
 |[],[]=>True
 |d::l,e::r=>f d e∧Tx f l r
 |_,_=>False
def Es(f:D→D→Prop) (a b:List D):Prop:=(a=b∧fa a=true)∨Tx f a b
def Sq(ρ:Im) (m:List Ent):Nat→D→D→Prop
 |0,_,_=>False
 |n+1,d,e=>
  match e with
  |.dead=>True
  |.v y=>match d with|.v x=>x=y|_=>False
  |.agg b=>match d with|.agg a=>Es (Sq ρ m n) a b|_=>False
  |.tup b=>match d with|.tup a=>Es (Sq ρ m n) a b|_=>False
  |.sl S b=>
   match d with
   |.v x=>x=.slice none 0 0∧b=[]
   |.sl S' a=>S'=S∧Es (Sq ρ m n) a b
   |.own j v=>
    match m[j]? with
    |some (.live S' v' a)=>S'=S∧v'=v∧Eu ρ j=true∧Es (Sq ρ m n) a b
    |_=>False
   |.view j v lo k=>
    match m[j]? with
    |some (.live S' v' a)=>S'=S∧v'=v∧Eu ρ j=true∧lo+k≤a.length∧Es (Sq ρ m n) ((a.drop lo).take k) b
    |_=>False
   |_=>False
  |.own i u=>
   match d with
   |.own j v=>ρ[i]?=some (some j,v,u)
   |.v x=>x=.slice none 0 0∧∃S,ρ[i]?=some (none,S,u)
   |_=>False
  |.ref i u x s=>match d with|.ref j v x' s'=>ρ[i]?=some (some j,v,u)∧x'=x∧s'=s|_=>False
  |.view i u lo k=>match d with|.view j v lo' k'=>ρ[i]?=some (some j,v,u)∧lo'=lo∧k'=k|_=>False
  |.pt e'=>
   match d with
   |.pt d'=>(d'=e'∧la d'=true)∨Sq ρ m n d' e'
   |.ref j v x s=>
    match m[j]? with
    |some (.live _ v' a)=>v'=v∧s=0∧Eu ρ j=true∧(match a[x]? with|some d'=>(d'=e'∧la d'=true)∨Sq ρ m n d' e'|none=>False)
    |_=>False
   |_=>False
  |.fn f b d'=>match d with|.fn f' a c=>f'=f∧Es (Sq ρ m n) a b∧Es (Sq ρ m n) c d'|_=>False
  |.mp i=>match d with|.mp j=>ρ[i]?=some (some j,0,0)|_=>False
  |.ifc t e'=>match d with|.ifc t' d'=>t'=t∧((d'=e'∧la d'=true)∨Sq ρ m n d' e')|_=>False
theorem tt{ρ:Im}{m:List Ent}{f:D→D→Prop}(hf:∀d e l r,f d e→Sbs ρ m l r→Sbs ρ m (d::l) (e::r)):∀{a b:List D},Tx f a b→Sbs ρ m a b
 |[],[],_=>.nil
 |d::l,e::r,h=>hf d e l r h.1 (tt hf h.2)
 |[],_::_,h=>h.elim
 |_::_,[],h=>h.elim
theorem Lp{ρ:Im}{m:List Ent}{f:D→D→Prop}(hf:∀d e l r,f d e→Sbs ρ m l r→Sbs ρ m (d::l) (e::r)) {a b:List D}(h:Es f a b):Sbs ρ m a b:=by
 rcases h with⟨rfl,h⟩|h
 ·exact Sbs.free h
 ·exact tt hf h
theorem Xq{ρ:Im}{m:List Ent}:∀(n:Nat) (d e:D) (l r:List D),Sq ρ m n d e→Sbs ρ m l r→Sbs ρ m (d::l) (e::r)
 |0,d,e,l,r,h,_=>h.elim
 |n+1,d,e,l,r,h,hs=>by
  have ih:=Xq (ρ:=ρ) (m:=m) n;have one:∀d' e',((d'=e'∧la d'=true)∨Sq ρ m n d' e')→Sbs ρ m [d'] [e']:=by
   rintro d' e' (⟨rfl,h⟩|h)
   ·exact .same h .nil
   ·exact ih _ _ _ _ h .nil
  cases e with
  |dead=>exact .dead hs
  |v y=>cases d<;>simp only[Sq]at h;subst h;exact .v hs
  |agg b=>cases d<;>simp only[Sq]at h;exact .agg (Lp ih h) hs
  |tup b=>cases d<;>simp only[Sq]at h;exact .tup (Lp ih h) hs
  |sl S b=>
   cases d with
   |v x=>simp only[Sq]at h;obtain⟨rfl,rfl⟩:=h;exact .nils hs
   |sl S' a=>simp only[Sq]at h;obtain⟨rfl,h⟩:=h;exact .sl (Lp ih h) hs
   |own j v=>
    simp only[Sq]at h;split at h
    ·rename_i S' v' a hm;obtain⟨rfl,rfl,ho,h⟩:=h;exact .Vd hm ho (Lp ih h) hs
    ·exact h.elim
   |view j v lo k=>
    simp only[Sq]at h;split at h
    ·rename_i S' v' a hm;obtain⟨rfl,rfl,ho,hl,h⟩:=h;exact .fview hm ho hl (Lp ih h) hs
    ·exact h.elim
   |_=>simp only[Sq]at h
  |own i u=>
   cases d with
   |own j v=>simp only[Sq]at h;exact .own h hs
   |v x=>simp only[Sq]at h;obtain⟨rfl,S,h⟩:=h;exact .ax i h hs
   |_=>simp only[Sq]at h
  |ref i u x s=>cases d<;>simp only[Sq]at h;obtain⟨h,rfl,rfl⟩:=h;exact .ref h hs
  |view i u lo k=>cases d<;>simp only[Sq]at h;obtain⟨h,rfl,rfl⟩:=h;exact .view h hs
  |pt e'=>
   cases d with
   |pt d'=>simp only[Sq]at h;exact .pt (one _ _ h) hs
   |ref j v x s=>
    simp only[Sq]at h;split at h
    ·rename_i S' v' a hm;obtain⟨rfl,rfl,ho,h⟩:=h;split at h
     ·rename_i d' hd;exact .fref hm ho hd (one _ _ h) hs
     ·exact h.elim
    ·exact h.elim
   |_=>simp only[Sq]at h
  |fn f b d'=>cases d<;>simp only[Sq]at h;obtain⟨rfl,h1,h2⟩:=h;exact .fn (Lp ih h1) (Lp ih h2) hs
  |mp i=>cases d<;>simp only[Sq]at h;exact .mp h hs
  |ifc t e'=>cases d<;>simp only[Sq]at h;obtain⟨rfl,h⟩:=h;exact .ifc (one _ _ h) hs
def Jx(ρ:Im) (m:List Ent):Im→List Ent→Prop
 |[],[]=>True
 |(some j,v,u)::os,.live S u' b::es=>u=u'∧(match m[j]? with|some (.live S' v' a)=>S'=S∧v'=v∧Es (Sq ρ m 9) a b|_=>False)∧Jx ρ m os es
 |(none,S,u)::os,.live S' u' b::es=>S=S'∧u=u'∧b=[]∧Jx ρ m os es
 |(some j,v,u)::os,.mp b::es=>v=0∧u=0∧(match m[j]? with|some (.mp a)=>a=b∧KR b=true|_=>False)∧Jx ρ m os es
 |_,_=>False
theorem Ly{ρ:Im}{m:List Ent}:∀{os:Im}{es:List Ent},Jx ρ m os es→Ets ρ m os es
 |[],[],_=>.nil
 |(some j,v,u)::os,.live S u' b::es,h=>by
  simp only[Jx]at h;obtain⟨rfl,h1,h2⟩:=h;split at h1
  ·rename_i S' v' a hm;obtain⟨rfl,rfl,h1⟩:=h1;exact .live hm (Lp (Xq 9) h1) (Ly h2)
  ·exact h1.elim
 |(none,S,u)::os,.live S' u' b::es,h=>by
  simp only[Jx]at h;obtain⟨rfl,rfl,rfl,h2⟩:=h;exact .new (Ly h2)
 |[],_::_,h=>by simp[Jx]at h
 |_::_,[],h=>by simp[Jx]at h
 |(some j,v,u)::os,.mp b::es,h=>by
  simp only[Jx]at h;obtain⟨rfl,rfl,h1,h2⟩:=h;split at h1
  ·rename_i a hm;obtain⟨rfl,h1⟩:=h1;exact .mp hm h1 (Ly h2)
  ·exact h1.elim
 |(some j,v,u)::os,.gone::es,h=>by simp[Jx]at h
 |(none,S,u)::os,.mp _::es,h=>by simp[Jx]at h
 |(none,S,u)::os,.gone::es,h=>by simp[Jx]at h
theorem Tells.q(ρ:Im) {s S:St}(hk:Vs ρ N=true) (h3:(ρ.filterMap (·.1)).Nodup) (h:Tx (Sq ρ s.m 9) s.t S.t∧Jx ρ s.m ρ S.m):Tells N s S:=
 .one ρ hk ⟨tt (Xq 9) h.1,Ly h.2,h3⟩
section
variable {ρ:Im} {m:List Ent} {n:Nat} {d e:D} {a b c l r:List D} {x y:Value} {S S' i j u v k lo q s:Nat}
theorem oU{f:D→D→Prop}:Tx f [] []=True:=kaa rfl rfl
theorem lP{f:D→D→Prop}:Tx f (d::l) (e::r)=(f d e∧Tx f l r):=kaa rfl rfl
theorem Df{f:D→D→Prop}(h:fa a=true):Es f a a=True:=by simp[Es,h]
theorem W0{f:D→D→Prop}:Es f (d::l) (e::r)=(((d::l=e::r)∧fa (d::l)=true)∨(f d e∧Tx f l r)):=kaa rfl rfl
theorem VR{f:D→D→Prop}:Es f [] []=True:=by simp[Es,fa]
theorem jU:Sq ρ m (n+1) d .dead=True:=kaa rfl rfl
theorem sq_v:Sq ρ m (n+1) (.v x) (.v y)=(x=y):=kaa rfl rfl
theorem pX:Sq ρ m (n+1) (.agg a) (.agg b)=Es (Sq ρ m n) a b:=kaa rfl rfl
theorem GV:Sq ρ m (n+1) (.tup a) (.tup b)=Es (Sq ρ m n) a b:=kaa rfl rfl
theorem dS:Sq ρ m (n+1) (.v x) (.sl S b)=(x=.slice none 0 0∧b=[]):=kaa rfl rfl
theorem U4:Sq ρ m (n+1) (.sl S' a) (.sl S b)=(S'=S∧Es (Sq ρ m n) a b):=kaa rfl rfl
theorem YT:Sq ρ m (n+1) (.own j v) (.sl S b)=(match m[j]? with|some (.live S' v' a)=>S'=S∧v'=v∧Eu ρ j=true∧Es (Sq ρ m n) a b|_=>False):=kaa rfl rfl
theorem PN:Sq ρ m (n+1) (.view j v lo k) (.sl S b)=(match m[j]? with|some (.live S' v' a)=>S'=S∧v'=v∧Eu ρ j=true∧lo+k≤a.length∧Es (Sq ρ m n) ((a.drop lo).take k) b|_=>False):=kaa rfl rfl
theorem AY:Sq ρ m (n+1) (.own j v) (.own i u)=(ρ[i]?=some (some j,v,u)):=kaa rfl rfl
theorem XN:Sq ρ m (n+1) (.v x) (.own i u)=(x=.slice none 0 0∧∃S,ρ[i]?=some (none,S,u)):=kaa rfl rfl
theorem DY:Sq ρ m (n+1) (.ref j v q s) (.ref i u k lo)=(ρ[i]?=some (some j,v,u)∧q=k∧s=lo):=kaa rfl rfl
theorem GR{lo' k':Nat}:Sq ρ m (n+1) (.view j v lo' k') (.view i u lo k)=(ρ[i]?=some (some j,v,u)∧lo'=lo∧k'=k):=kaa rfl rfl
theorem l7:Sq ρ m (n+1) (.pt d) (.pt e)=((d=e∧la d=true)∨Sq ρ m n d e):=kaa rfl rfl
theorem NR:Sq ρ m (n+1) (.ref j v q s) (.pt e)=(match m[j]? with
 |some (.live _ v' a)=>v'=v∧s=0∧Eu ρ j=true∧(match a[q]? with|some d'=>(d'=e∧la d'=true)∨Sq ρ m n d' e|none=>False)
 |_=>False):=kaa rfl rfl
theorem Y1{f f':FuncId}{d':List D}:Sq ρ m (n+1) (.fn f' a c) (.fn f b d')=(f'=f∧Es (Sq ρ m n) a b∧Es (Sq ρ m n) c d'):=kaa rfl rfl
theorem uX:Jx ρ m [] []=True:=kaa rfl rfl
theorem bT{os:Im}{es:List Ent}{u':Nat}:Jx ρ m ((some j,v,u)::os) (.live S u' b::es)=(u=u'∧(match m[j]? with|some (.live S' v' a)=>S'=S∧v'=v∧Es (Sq ρ m 9) a b|_=>False)∧Jx ρ m os es):=by simp only[Jx]
theorem fX{os:Im}{es:List Ent}{u':Nat}:Jx ρ m ((none,S,u)::os) (.live S' u' b::es)=(S=S'∧u=u'∧b=[]∧Jx ρ m os es):=by simp only[Jx]
theorem OZ:Sq ρ m (n+1) (.mp j) (.mp i)=(ρ[i]?=some (some j,0,0)):=kaa rfl rfl
theorem C5{os:Im}{es:List Ent}{b:List (Value×D)}:Jx ρ m ((some j,v,u)::os) (.mp b::es)=(v=0∧u=0∧(match m[j]? with|some (.mp a)=>a=b∧KR b=true|_=>False)∧Jx ρ m os es):=by simp only[Jx]
theorem MT:KR []=true:=kaa rfl rfl
theorem SP:Eu [] j=true:=kaa rfl rfl
theorem JK{o:Option Nat×Nat×Nat}:Eu (o::ρ) j=((match o.1 with|some k=>k !=j|none=>true)&&Eu ρ j):=kaa rfl rfl
end
theorem HU{m:List Ent}{d o:D}(h:Sq [] m 9 d o):Fin m d o:=Xq 9 d o [] [] h .nil
theorem Az{G:Gh}{w:World}{l r:List D}(h:Sbs [] [] l r):(∀us,VsRel G w l us→VsRel G w r us)∧(∀b S off,Ha G w b S l off→Ha G w b S r off):=by
 have both:∀{d e:D} {l r:List D},(∀u,VRel G w d u→VRel G w e u)→
  ((∀us,VsRel G w l us→VsRel G w r us)∧(∀b S off,Ha G w b S l off→Ha G w b S r off))→
  ((∀us,VsRel G w (d::l) us→VsRel G w (e::r) us)∧(∀b S off,Ha G w b S (d::l) off→Ha G w b S (e::r) off)):=by
  intro d e l r h1 h2;refine⟨fun us hv=>?_,fun b S off hv=>?_⟩
  ·simp only[VsRel]at hv⊢;obtain⟨u,us',rfl,g1,g2⟩:=hv;exact⟨u,us',rfl,h1 u g1,h2.1 us' g2⟩
  ·simp only[Ha]at hv⊢;obtain⟨⟨u,g1,g2,g3⟩,g4⟩:=hv;exact⟨⟨u,h1 u g1,g2,g3⟩,h2.2 b S _ g4⟩
 have first:∀{d e:D},(∀us,VsRel G w [d] us→VsRel G w [e] us)→∀u,VRel G w d u→VRel G w e u:=by
  intro d e h u hu;have:=h [u] (by simp only[VsRel];exact⟨u,[],rfl,hu,rfl⟩);simp only[VsRel]at this;obtain⟨u',us',he,h1,_⟩:=this;injection he with he _;rw[he];exact h1
 induction h with
 |nil=>exact⟨fun us h=>h,fun _ _ _ h=>h⟩
 |same hf h ih=>exact both (fun u hu=>hu) ih
 |dead h ih=>exact both (fun u _=>by simp[VRel]) ih
 |nils h ih=>exact both (fun u hu=>by simp only[VRel]at hu⊢;exact⟨none,0,0,hu,rfl,yaa _,by simp⟩) ih
 |agg ha h iha ih=>
  refine both (fun u hu=>?_) ih;simp only[VRel]at hu⊢;obtain⟨cs,rfl,g1,g2⟩:=hu;exact⟨cs,rfl,iha.1 cs g1,g2⟩
 |tup ha h iha ih=>
  refine both (fun u hu=>?_) ih;simp only[VRel]at hu⊢;obtain⟨cs,rfl,g1⟩:=hu;exact⟨cs,rfl,iha.1 cs g1⟩
 |sl ha h iha ih=>
  refine both (fun u hu=>?_) ih;simp only[VRel]at hu⊢;obtain⟨a,n,cap,rfl,hn,hc,g⟩:=hu;refine⟨a,n,cap,rfl,by rw[←ha.length];exact hn,hc,?_⟩;rcases g with rfl|⟨b,off,rfl,hF,hr⟩
  ·exact .inl (Eaa ha.length.symm)
  ·exact .inr ⟨b,off,rfl,hF,iha.2 b _ off hr⟩
 |pt ha h iha ih=>
  refine both (fun u hu=>?_) ih;simp only[VRel]at hu⊢;obtain⟨b,off,x,rfl,hF,hd,hh⟩:=hu;exact⟨b,off,x,rfl,hF,first iha.1 x hd,hh⟩
 |fn ha hc h iha ihc ih=>
  refine both (fun u hu=>?_) ih;simp only[VRel]at hu⊢;obtain⟨fs,cs,rfl,h1,h2⟩:=hu;exact⟨fs,cs,rfl,iha.1 fs h1,ihc.1 cs h2⟩
 |ifc ha h iha ih=>
  refine both (fun u hu=>?_) ih;simp only[VRel]at hu⊢;obtain⟨x,rfl,hd⟩:=hu;exact⟨x,rfl,first iha.1 x hd⟩
 |ax i hi=>simp at hi
 |own hi=>simp at hi
 |ref hi=>simp at hi
 |view hi=>simp at hi
 |mp hi=>simp at hi
 |Vd hm=>simp at hm
 |fview hm=>simp at hm
 |fref hm=>simp at hm
theorem My{k:Nat}{ds ds':List D}{o:D}{m:List Ent}{f:D→List Ent→Prop}(h:Den P k ds' o) (hf:f o m) (hs:Tx (Sq [] [] 9) ds ds'):qe P k ds m f:=
 Ub (m1:=m) (d1:=o) ⟨(h m).1,fun G w vs hv hi=>(h m).2 G w vs ((Az (tt (Xq 9) hs)).1 vs hv) hi⟩ hf
theorem qz{k:Nat}{ds ds':List D}{o:D}{m:List Ent}{f:D→List Ent→Prop}(h:Den P k ds' o) (hf:f o m) (hfl:flat o=true) (hs:Tx (Sq [] m 9) ds ds'):qe P k ds m f:=
 Ou h (tt (Xq 9) hs) hfl hf
section
variable {K:Exit→St→Prop} {s:St} {l:List RI} {a b:C} {c:Operand} {t:Bool} {id q:Nat}
theorem T.rg(h:Wf P l (K .normal) s):Tm.T P N (.TF l) K s:=T.TF (Un h)
theorem T.cd(ht:s.ev c=.v (.bool t)) (h:gP (t=true) (Tm.T P N a K s) (Tm.T P N b K s)):Tm.T P N (.cond c a b) K s:=
 T.cond ht (fun e=>h.1 e) (fun e=>h.2 (by simp[e]))
theorem T.bk(h:Tm.T P N a (KB id K) s):Tm.T P N (.block id a) K s:=T.block (h.mono fun e s' h'=>by cases e<;>exact h')
theorem T.sr(h:Wf P l (KS P N b K .normal) s):Tm.T P N (.seq (.TF l) b) K s:=T.FM (T.rg h)
theorem gP.ite{p q Y N:Prop} [Decidable q] {α:Type}{A B:Option α}{r:α}(h:(if q then A else B)=some r) (hpq:p↔q) (h1:q→A=some r→Y) (h2:¬q→B=some r→N):gP p Y N:=by
 by_cases c:q
 ·rw[if_pos c]at h;exact⟨fun _=>h1 c h,fun hp=>(hp (hpq.2 c)).elim⟩
 ·rw[if_neg c]at h;exact⟨fun hp=>(c (hpq.1 hp)).elim,fun _=>h2 c h⟩
end
def ds:Nat→List D→List D
 |0,l=>l
 |n+1,l=>.dead::ds n l
theorem kl{l:List D}:ds 0 l=l:=kaa rfl rfl
theorem Dk{n:Nat}{l:List D}:ds (n+1) l=.dead::ds n l:=kaa rfl rfl
end Go.Tm
namespace Go.Tm
variable {P:Program} {N:Nat}
def IP(ok:Bool) (z:D) (m:List Ent) (o:Option D):Option (D×List Ent):=
 match o with
 |some d=>some (if ok then .tup [d,.v (.bool true)]else d,m)
 |none=>some (if ok then .tup [z,.v (.bool false)]else z,m)
def sO{β:Type}:List (Int×β)→Int→Option β
 |[],_=>none
 |(q,x)::l,k=>if k=q then some x else sO l k
def BU{β:Type}(k:Int) (x:β):List (Int×β)→List (Int×β)
 |[]=>[(k,x)]
 |(q,y)::l=>if k=q then(k,x)::l else(q,y)::BU k x l
def em{β:Type}(e:β→D) (l:List (Int×β)):List (Value×D):=l.map fun p=>(.int .i64 p.1,e p.2)
theorem sI{β:Type}{e:β→D}{k:Int}:∀{l:List (Int×β)},lu (.int .i64 k) (em e l)=(sO l k).map e
 |[]=>kaa rfl rfl
 |(q,x)::l=>by
  have ih:=sI (e:=e) (k:=k) (l:=l);simp only[em]at ih;simp only[em,eab,lu,Hr,sO,beq_iff_eq,ih];split<;>rfl
theorem iN{β:Type}{e:β→D}{k:Int}{x:β}:∀{l:List (Int×β)},Uw (.int .i64 k) (e x) (em e l)=em e (BU k x l)
 |[]=>kaa rfl rfl
 |(q,y)::l=>by
  have ih:=iN (e:=e) (k:=k) (x:=x) (l:=l);simp only[em]at ih;simp only[em,eab,Uw,Hr,BU,beq_iff_eq,ih];split<;>rfl
theorem nY{β:Type}{e:β→D}{l:List (Int×β)}:((em e l).all fun q=>isKey 0 q.1)=true:=by
 simp[em,isKey]
theorem cY{β:Type}{e:β→D}:em e []=[]:=kaa rfl rfl
theorem NX{β:Type}{e:β→D}{l:List (Int×β)}:(em e l).length=l.length:=by simp[em]
theorem OP{β:Type}{e:β→D} [Fr e] {l:List (Int×β)}:KR (em e l)=true:=by
 simp only[KR,em,List.all_map,Raa];exact fun x _=>Fr.h x.2
theorem WQ{k:Int}:isKey 0 (.int .i64 k)=true:=kaa rfl rfl
def vr(b:ByteArray) (i:Int):Option Int:=if h:0≤i∧i.toNat<b.size then some ((b[i.toNat]'h.2).toNat:Int)else none
def gp:Nat→List D→Bool
 |0,[]=>true
 |n+1,_::l=>gp n l
 |_,_=>false
theorem Rm:∀{n:Nat}{l:List D},gp n l=true↔l.length=n
 |0,[]=>by simp[gp]
 |n+1,_::l=>by simp[gp,Rm (n:=n) (l:=l)]
 |0,_::_=>by simp[gp]
 |_+1,[]=>by simp[gp]
def Zr:Nat→Nat→List D→Bool
 |0,0,_=>true
 |0,n+1,_::l=>Zr 0 n l
 |o+1,n,_::l=>Zr o n l
 |_,_,[]=>false
theorem Qn:∀{o n:Nat}{l:List D},Zr o n l=true↔o+n≤l.length
 |0,0,l=>by simp[Zr]
 |0,n+1,_::l=>by simp[Zr,Qn (o:=0) (n:=n) (l:=l)]
 |o+1,n,_::l=>by simp[Zr,Qn (o:=o) (n:=n) (l:=l)];omega
 |0,n+1,[]=>by simp[Zr]
 |o+1,n,[]=>by simp[Zr]
theorem pY:gp 0 []=true:=kaa rfl rfl
theorem RR{n:Nat}{d:D}{l:List D}:gp (n+1) (d::l)=gp n l:=kaa rfl rfl
theorem h2_z{l:List D}:Zr 0 0 l=true:=by cases l<;>rfl
theorem T9{n:Nat}{d:D}{l:List D}:Zr 0 (n+1) (d::l)=Zr 0 n l:=kaa rfl rfl
theorem n9{o n:Nat}{d:D}{l:List D}:Zr (o+1) n (d::l)=Zr o n l:=by cases n<;>rfl
theorem S9:type_of% @ea.eq_1:=by intros;exact kaa rfl rfl
theorem xV:type_of% @ea.eq_2:=by intros;exact kaa rfl rfl
theorem D4:type_of% @ea.eq_3:=by intros;exact kaa rfl rfl
theorem J6:type_of% @ea.eq_4:=by intros;exact kaa rfl rfl
theorem I9:type_of% @ea.eq_5:=by intros;exact kaa rfl rfl
theorem iV:type_of% @ea.eq_6:=by intros;exact kaa rfl rfl
theorem XS:type_of% @ea.eq_7:=by intros;exact kaa rfl rfl
theorem C1{s:St}{S:Nat}{x:Operand}:ea s (.box S x)=if(s.ev x).ok=true∧gp S (s.ev x).cells=true then some (.ref s.m.length 0 0 0,s.m++[.live S 0 [s.ev x]])else none:=by simp only[Rm,Qn];rfl
theorem GQ:type_of% @ea.eq_9:=by intros;exact kaa rfl rfl
theorem LP:type_of% @ea.eq_10:=by intros;exact kaa rfl rfl
theorem kX{s:St}{A:Bool}{n:Nat}{x:Operand}:ea s (.load A n x) =
 match s.ev x with
 |.pt d=>
  match A,d with
  |true,.agg l=>if gp n l=true then some (d,s.m)else none
  |true,_=>none
  |false,.agg _=>none
  |false,d=>if d.ok=true then some (d,s.m)else none
 |.ref id Ga idx sub=>
  match s.m[id]? with
  |some (.live _ ver' l)=>if ver'=Ga then(l[idx]?).bind fun d=>if d.ok=true then(part A n sub d.cells).map fun r=>(r,s.m)else none else none
  |_=>none
 |_=>none:=by simp only[Rm,Qn];rfl
theorem qU{s:St}{n:Nat}{x:Operand}{y:Operand}:ea s (.store n x y) =
 match s.ev x with
 |.ref id Ga idx sub=>
  match s.m[id]? with
  |some (.live S ver' l)=>
   if ver'=Ga∧(s.ev y).ok=true∧gp n (s.ev y).cells=true then
    (l[idx]?).bind fun d=>if d.ok=true∧0<n∧Zr sub n d.cells=true then some (.dead,s.m.set id (.live S ver' (l.set idx (d.Hd sub (s.ev y).cells))))else none
   else none
  |_=>none
 |_=>none:=by simp only[Rm,Qn];rfl
theorem EV:type_of% @ea.eq_13:=by intros;exact kaa rfl rfl
theorem DT:type_of% @ea.eq_14:=by intros;exact kaa rfl rfl
theorem HS:type_of% @ea.eq_15:=by intros;exact kaa rfl rfl
theorem LQ:type_of% @ea.eq_16:=by intros;exact kaa rfl rfl
theorem iU:type_of% @ea.eq_17:=by intros;exact kaa rfl rfl
theorem pR:type_of% @ea.eq_18:=by intros;exact kaa rfl rfl
theorem pU:type_of% @ea.eq_19:=by intros;exact kaa rfl rfl
theorem gJ:type_of% @ea.eq_20:=by intros;exact kaa rfl rfl
theorem Z4:type_of% @ea.eq_21:=by intros;exact kaa rfl rfl
theorem SX:type_of% @ea.eq_22:=by intros;exact kaa rfl rfl
theorem WL:type_of% @ea.eq_23:=by intros;exact kaa rfl rfl
theorem EK:type_of% @ea.eq_24:=by intros;exact kaa rfl rfl
theorem NN:type_of% @ea.eq_25:=by intros;exact kaa rfl rfl
theorem KY:type_of% @ea.eq_26:=by intros;exact kaa rfl rfl
theorem q_mm:type_of% @ea.eq_27:=by intros;exact kaa rfl rfl
theorem N1:type_of% @ea.eq_28:=by intros;exact kaa rfl rfl
theorem iY:type_of% @ea.eq_29:=by intros;exact kaa rfl rfl
theorem NV{s:St}{x i:Operand}:ea s (.vr x i)=(match s.ev x,s.ev i with
 |.v (.string b),.v (.int _ k)=>(vr b k).map fun n=>(D.v (.int .u8 n),s.m)
 |_,_=>none):=by
 simp only[ea];generalize s.ev x=a;generalize s.ev i=c;split
 ·rename_i b k' k;by_cases h:0≤k∧k.toNat<b.size<;>simp[vr,h]
 ·rename_i hx;split
  ·exact(hx _ _ _ rfl rfl).elim
  ·rfl
theorem gM:type_of% @ea.eq_31:=by intros;exact kaa rfl rfl
theorem YQ:type_of% @ea.eq_32:=by intros;exact kaa rfl rfl
theorem ZT{s:St}{K:Nat}{ok:Bool}{z:D}{x:Operand}{k:Operand}:ea s (.mlook K ok z x k) =
 match s.ev k with
 |.v kv=>
  if isKey K kv=true then
   match s.ev x with
   |.v (.map none)=>some (if ok then .tup [z,.v (.bool false)]else z,s.m)
   |.mp id=>
    match s.m[id]? with
    |some (.mp es)=>
     if(es.all fun e=>isKey K e.1)=true then
      IP ok z s.m (lu kv es)
     else none
    |_=>none
   |_=>none
  else none
 |_=>none:=by
 simp only[ea,IP];rfl
theorem sZ:type_of% @ea.eq_34:=by intros;exact kaa rfl rfl
theorem pW:type_of% @ea.eq_35:=by intros;exact kaa rfl rfl
theorem wT:type_of% @ea.eq_36:=by intros;exact kaa rfl rfl
theorem qT:type_of% @ea.eq_37:=by intros;exact kaa rfl rfl
theorem xK:type_of% @ea.eq_38:=by intros;exact kaa rfl rfl
theorem XZ:type_of% @ea.eq_39:=by intros;exact kaa rfl rfl
theorem jZ:type_of% @ea.eq_40:=by intros;exact kaa rfl rfl
theorem xQ:type_of% @ea.eq_41:=by intros;exact kaa rfl rfl
theorem RQ:type_of% @ea.eq_42:=by intros;exact kaa rfl rfl
def gQ(p:Prop) (R1:St→Prop) (s1:St) (R2:St→Prop) (s2:St):Prop:=gP p (R1 s1) (R2 s2)
theorem q9{R1 R2:St→Prop}{s1 s2:St}:gQ True R1 s1 R2 s2=R1 s1:=J7
theorem G9{R1 R2:St→Prop}{s1 s2:St}:gQ False R1 s1 R2 s2=R2 s2:=V5
def gD(d:D) (b:Bool) (R1:St→Prop) (s1:St) (R2:St→Prop) (s2 s0:St):Prop:=
 match d with
 |.v (.bool c)=>gQ (c=b) R1 s1 R2 s2
 |.v _=>R2 s0
 |_=>False
theorem IT{c b:Bool}{R1 R2:St→Prop}{s1 s2 s0:St}:gD (.v (.bool c)) b R1 s1 R2 s2 s0=gQ (c=b) R1 s1 R2 s2:=kaa rfl rfl
theorem nS{b:Bool}{R1 R2:St→Prop}{s1 s2 s0:St}:gD (.v (.tuple #[])) b R1 s1 R2 s2 s0=R2 s0:=kaa rfl rfl
theorem LM{b:Bool}{R1 R2:St→Prop}{s1 s2 s0:St}:gD (.v undef) b R1 s1 R2 s2 s0=R2 s0:=kaa rfl rfl
section
variable {t:List D} {m:List Ent} {i:Nat} {b:Bool} {dst:Option Tmp} {l:List RI} {K:St→Prop} {ins:I} {k q:Nat} {args:List Operand}
theorem vM:Wf P (.op dst (some (i,b)) ins::l) K ⟨t,m⟩=gD (t.getD i .dead) b (Wf P (.op dst none ins::l) K) ⟨t.set i (.v (.bool b)),m⟩ (Wf P l K) (St.put ⟨t.set i (.v (.bool (!b))),m⟩ dst (.v undef)) (St.put ⟨t,m⟩ dst (.v undef)):=by
 rw[IN];simp only[gate,gD,gQ,Wr,UI]
 cases h:t.getD i .dead with
 |v x=>cases x<;>simp[gP]<;>cases b<;>simp
 |_=>rfl
theorem sG:Wf P (.call dst (some (i,b)) (.func k) args::l) K ⟨t,m⟩=gD (t.getD i .dead) b (Wf P (.call dst none (.func k) args::l) K) ⟨t.set i (.v (.bool b)),m⟩ (Wf P l K) (St.put ⟨t.set i (.v (.bool (!b))),m⟩ dst (.v undef)) (St.put ⟨t,m⟩ dst (.v undef)):=by
 rw[FF];simp only[gate,gD,gQ,Wr,Uz]
 cases h:t.getD i .dead with
 |v x=>cases x<;>simp[gP]<;>cases b<;>simp
 |_=>rfl
theorem BL{t:List D}{i:Nat}{b c:Bool}(h:t.getD i .dead=.v (.bool c)) {Y N:List D→Prop}:gP (c=b) (Y t) (N t)=gP (c=b) (Y (t.set i (.v (.bool b)))) (N (t.set i (.v (.bool (!b))))):=by
 have hs:=Nv h (by simp);by_cases hc:c=b
 ·subst hc;rw[hs];simp[gP]
 ·have:(!b)=c:=by cases b<;>cases c<;>simp_all
  rw[this,hs];simp[gP,hc]
theorem iH:Wf P (.call dst none (.tmp i) args::l) K ⟨t,m⟩=(match t.getD i .dead with|.fn k first caps=>qe P k (first++args.map (St.ev ⟨t,m⟩)++caps) m (KO (Wf P l K) ⟨t,m⟩ dst)|_=>False):=by
 simp only[Wf,gate,St.ec,St.ev]
 first|done|(cases t.getD i .dead<;>rfl)
theorem BS:Cr P (q+1) (.op dst (some (i,b)) ins::l) K ⟨t,m⟩=gD (t.getD i .dead) b (Cr P (q+1) (.op dst none ins::l) K) ⟨t.set i (.v (.bool b)),m⟩ (Cr P q l K) (St.put ⟨t.set i (.v (.bool (!b))),m⟩ dst (.v undef)) (St.put ⟨t,m⟩ dst (.v undef)):=by
 rw[mT];simp only[gate,gD,gQ,HP]
 cases h:t.getD i .dead with
 |v x=>
  cases x with
  |bool c=>exact BL h (Y:=fun t=>ym (ea ⟨t,m⟩ ins) (KO (Cr P q l K) ⟨t,m⟩ dst)) (N:=fun t=>Cr P q l K (St.put ⟨t,m⟩ dst (.v undef)))
  |_=>cases b<;>simp[gP]
 |_=>rfl
theorem XI:Cr P (q+1) (.call dst (some (i,b)) (.func k) args::l) K ⟨t,m⟩=gD (t.getD i .dead) b (Cr P (q+1) (.call dst none (.func k) args::l) K) ⟨t.set i (.v (.bool b)),m⟩ (Cr P q l K) (St.put ⟨t.set i (.v (.bool (!b))),m⟩ dst (.v undef)) (St.put ⟨t,m⟩ dst (.v undef)):=by
 rw[RG];simp only[gate,gD,gQ,EB]
 cases h:t.getD i .dead with
 |v x=>
  cases x with
  |bool c=>exact BL h (Y:=fun t=>kC P k (args.map (St.ev ⟨t,m⟩)) (Cr P q l K) ⟨t,m⟩ dst) (N:=fun t=>Cr P q l K (St.put ⟨t,m⟩ dst (.v undef)))
  |_=>cases b<;>simp[gP]
 |_=>rfl
end
section
variable {t:List D} {m m':List Ent} {i:Nat} {x:Value} {f:FuncId} {g:Nat} {b c:Bool} {d d':D} {k n:Nat} {R:St→Prop} {o:Operand} {s:St}
theorem tZ:St.ev ⟨t,m⟩ (.tmp i)=t.getD i .dead:=kaa rfl rfl
theorem TN:St.ev s (.const x)=.v x:=kaa rfl rfl
theorem QT:St.ev s (.func f)=.fn f [] []:=kaa rfl rfl
theorem wJ:St.put ⟨t,m⟩ (some i) d=⟨t.set i d,m⟩:=kaa rfl rfl
theorem cK:St.put s none d=s:=kaa rfl rfl
theorem NQ:KO R ⟨t,m⟩ (some i) d m'=R ⟨t.set i d,m'⟩:=kaa rfl rfl
theorem LS:KO R ⟨t,m⟩ none d m'=R ⟨t,m'⟩:=kaa rfl rfl
theorem RJ:gate ⟨t,m⟩ (some (i,b))=(match t.getD i .dead with|.v (.bool c)=>some (some (c,b))|.v _=>some (some (!b,b))|_=>none):=kaa rfl rfl
theorem wP:Wr ⟨t,m⟩ (some (i,b)) c=(match t.getD i .dead with|.v (.bool _)=>⟨t.set i (.v (.bool c)),m⟩|_=>⟨t,m⟩):=kaa rfl rfl
theorem aK{l:List D}:D.cells (.agg l)=l:=kaa rfl rfl
theorem oR:D.cells (.v x)=[.v x]:=kaa rfl rfl
theorem vL{l:List D}:D.cells (.sl n l)=[.sl n l]:=kaa rfl rfl
theorem Ow:D.cells (.own i k)=[.own i k]:=kaa rfl rfl
theorem VF{a b:Nat}:D.cells (.view i k a b)=[.view i k a b]:=kaa rfl rfl
theorem VI{a b:Nat}:D.cells (.ref i k a b)=[.ref i k a b]:=kaa rfl rfl
theorem nO:D.cells (.pt d)=[.pt d]:=kaa rfl rfl
theorem kQ{a b:List D}:D.cells (.fn f a b)=[.fn f a b]:=kaa rfl rfl
theorem XL:D.cells (.mp i)=[.mp i]:=kaa rfl rfl
theorem JY{l:List D}:D.ok (.agg l)=true:=kaa rfl rfl
theorem W9:D.ok (.v x)=one x:=kaa rfl rfl
theorem O1{l:List D}:D.ok (.sl n l)=true:=kaa rfl rfl
theorem wX:D.ok (.own i k)=true:=kaa rfl rfl
theorem aU{a b:Nat}:D.ok (.view i k a b)=true:=kaa rfl rfl
theorem MW{a b:Nat}:D.ok (.ref i k a b)=true:=kaa rfl rfl
theorem C2:D.ok (.pt d)=true:=kaa rfl rfl
theorem T2{a b:List D}:D.ok (.fn f a b)=true:=kaa rfl rfl
theorem T5:D.ok (.mp i)=true:=kaa rfl rfl
theorem MS{j:IntKind}{z:Int}:one (.int j z)=true:=kaa rfl rfl
theorem zM:one (.bool b)=true:=kaa rfl rfl
theorem zT{z:ByteArray}:one (.string z)=true:=kaa rfl rfl
theorem VW{a b}:one (.slice none a b)=true:=kaa rfl rfl
theorem SQ:one (.map none)=true:=kaa rfl rfl
theorem lR:one (.pointer none)=true:=kaa rfl rfl
theorem QS:fc m (.v (.slice none 0 0))=some 0:=kaa rfl rfl
theorem QV{l:List D}:fc m (.sl n l)=some l.length:=kaa rfl rfl
theorem XQ:fc m (.own i k)=(match m[i]? with|some (.live _ ver' l)=>if ver'=k then some l.length else none|_=>none):=kaa rfl rfl
theorem mO{a b:Nat}:fc m (.view i k a b)=(match m[i]? with|some _=>some b|none=>none):=kaa rfl rfl
theorem VS:contents n m (.v (.slice none 0 0))=some []:=kaa rfl rfl
theorem pZ{l:List D}:contents n m (.sl k l)=(if k=n then some l else none):=kaa rfl rfl
theorem PT:contents n m (.own i k)=(match m[i]? with|some (.live S' ver' l)=>if S'=n∧ver'=k then some l else none|_=>none):=kaa rfl rfl
theorem CO{a b:Nat}:contents n m (.view i k a b)=(match m[i]? with|some (.live S' ver' l)=>if S'=n∧ver'=k∧a+b≤l.length then some ((l.drop a).take b)else none|_=>none):=kaa rfl rfl
theorem aZ{l:List D}{off:Nat}:part true n off l=(if Zr off n l=true then some (.agg ((l.drop off).take n))else none):=by simp only[Qn];rfl
theorem OW{l:List D}{off:Nat}:part false n off l=l[off]?:=kaa rfl rfl
theorem AR{l r:List D}{a:Nat}:D.Hd (.agg l) a r=.agg (Il l a r):=kaa rfl rfl
theorem K0{r:List D}{a:Nat}:D.Hd (.v x) a r=r.headD .dead:=kaa rfl rfl
theorem aY{l r:List D}{a:Nat}:D.Hd (.sl n l) a r=r.headD .dead:=kaa rfl rfl
theorem xS{r:List D}{a:Nat}:D.Hd (.own i k) a r=r.headD .dead:=kaa rfl rfl
theorem nV{r:List D}{a:Nat}:D.Hd (.pt d) a r=r.headD .dead:=kaa rfl rfl
theorem nR{r:List D}{a b c:Nat}:D.Hd (.ref i k b c) a r=r.headD .dead:=kaa rfl rfl
theorem head_cons{r:List D}{e:D}:(d::r).headD e=d:=kaa rfl rfl
theorem LN{l r:List D}:Il (d::l) 0 (d'::r)=d'::Il l 0 r:=by simp[Il]
theorem yM{l r:List D}:Il (d::l) (n+1) r=d::Il l n r:=by simp[Il,Nat.add_right_comm]
theorem SG{l:List D}:Il l 0 []=l:=by simp[Il]
theorem TJ{l:List D}:Wn s [] l=some l:=kaa rfl rfl
theorem MG{l:List D}{off:Nat}{ps:List (Nat×Nat×Operand)}:Wn s ((off,n,o)::ps) l=(if(s.ev o).ok=true∧gp n (s.ev o).cells=true∧Zr off n l=true then Wn s ps (Il l off (s.ev o).cells)else none):=by simp only[Rm,Qn];rfl
theorem jT{l:List D}:wb s n [] l=some l:=kaa rfl rfl
theorem PM{l:List D}{ps:List (Nat×Operand)}:wb s n ((i,o)::ps) l=(if(s.ev o).ok=true∧gp n (s.ev o).cells=true∧Zr i 1 l=true then wb s n ps (l.set i (s.ev o))else none):=by simp only[Rm,Qn];rfl
theorem AO:bound s n none=some n:=kaa rfl rfl
theorem mQ:bound s n (some o)=(match s.ev o with|.v (.int _ n)=>if 0≤n then some n.toNat else none|_=>none):=kaa rfl rfl
theorem fR{lo hi:Nat}:eo n m (.v (.slice none 0 0)) lo hi=(if lo=0∧hi=0 then some (.v (.slice none 0 0))else none):=kaa rfl rfl
theorem rZ{lo hi:Nat}{l:List D}:eo n m (.sl k l) lo hi=(if k=n∧lo≤hi∧hi≤l.length then some (.sl n ((l.drop lo).take (hi-lo)))else none):=kaa rfl rfl
theorem dT{lo hi:Nat}:eo n m (.own i k) lo hi=(match m[i]? with|some (.live S' ver' l)=>if S'=n∧ver'=k∧lo≤hi∧hi≤l.length then some (.view i k lo (hi-lo))else none|_=>none):=kaa rfl rfl
theorem jM{lo hi a b:Nat}:eo n m (.view i k a b) lo hi=(match m[i]? with|some (.live S' ver' l)=>if S'=n∧ver'=k∧lo≤hi∧hi≤b∧a+b≤l.length then some (.view i k (a+lo) (hi-lo))else none|_=>none):=kaa rfl rfl
theorem SR:leaves []=some []:=kaa rfl rfl
theorem qN{l:List D}:leaves (.v x::l)=(leaves l).map (x::·):=kaa rfl rfl
theorem DS{j k:IntKind}{a b:Int}:Xn 0 (.v (.int j a)) (.v (.int k b))=(if j=k then some (a==b)else none):=kaa rfl rfl
theorem yP{a b:Bool}:Xn 1 (.v (.bool a)) (.v (.bool b))=some (a==b):=kaa rfl rfl
theorem Bu{a b:ByteArray}:(a.toList==b.toList)=decide (a=b):=by
 by_cases h:a=b
 ·subst h;simp
 ·rw[decide_eq_false h,beq_eq_false_iff_ne];exact fun he=>h (by cases a;cases b;simp only[ByteArray.toList_eq]at he;simpa using he)
theorem mR{a b:ByteArray}:Xn 2 (.v (.string a)) (.v (.string b))=some (decide (a=b)):=by
 rw[←Bu];rfl
theorem VV{a b:ByteArray}:kf (binOp .eql 0 (.string a) (.string b))=some (.bool (decide (a=b))):=by
 rw[←Bu];rfl
theorem XX{a b:ByteArray}:kf (binOp .neq 0 (.string a) (.string b))=some (.bool (!decide (a=b))):=by
 rw[←Bu];rfl
theorem DR:Ic [] [] []=some true:=kaa rfl rfl
theorem RL{ks:List Nat}{xs ys:List D}{e:D}:Ic (k::ks) (d::xs) (e::ys)=(match Xn k d e,Ic ks xs ys with|some a,some b=>some (a&&b)|_,_=>none):=kaa rfl rfl
section
variable {j:IntKind} {a b:Int}
theorem oX:xg .add j a j b=some (.int j (ca j (a+b))):=by simp[xg]
theorem qW:xg .sub j a j b=some (.int j (ca j (a-b))):=by simp[xg]
theorem RX:xg .mul j a j b=some (.int j (ca j (a*b))):=by simp[xg]
theorem lX:xg .eql j a j b=some (.bool (a==b)):=by simp[xg]
theorem TW:xg .neq j a j b=some (.bool (a !=b)):=by simp[xg]
theorem ZY:xg .lss j a j b=some (.bool (decide (a<b))):=by simp[xg]
theorem XY:xg .leq j a j b=some (.bool (decide (a≤b))):=by simp[xg]
theorem jX:xg .gtr j a j b=some (.bool (decide (b<a))):=by simp[xg]
theorem VY:xg .geq j a j b=some (.bool (decide (b≤a))):=by simp[xg]
theorem yY:xg .quo j a j b=if b=0 then none else some (.int j (ca j (a.tdiv b))):=by
 by_cases h:b=0<;>simp[xg,h]
theorem yW:xg .rem j a j b=if b=0 then none else some (.int j (a.tmod b)):=by
 by_cases h:b=0<;>simp[xg,h]
end
theorem o7{b:Bool}:(b !=false)=b:=by cases b<;>rfl
theorem Z5{b:Bool}:(b !=true) = !b:=by cases b<;>rfl
theorem T4{b:Bool}:((!b)=false)=(b=true):=by cases b<;>simp
theorem D0{b:Bool}:((!b)=true)=(b=false):=by cases b<;>simp
theorem mA:Xa s []=some []:=kaa rfl rfl
theorem xz{l:List RV}:Xa ⟨t,m⟩ (.tmp i::l)=(match Xa ⟨t,m⟩ l with|some ds=>some (t.getD i .dead::ds)|none=>none):=by
 simp only[Xa,np];cases Xa ⟨t,m⟩ l<;>rfl
theorem Nw{l:List RV}:Xa ⟨t,m⟩ (.cell b n i::l)=(match ea ⟨t,m⟩ (.load b n (.tmp i)),Xa ⟨t,m⟩ l with|some (d,_),some ds=>some (d::ds)|_,_=>none):=by
 simp only[Xa,np];cases ea ⟨t,m⟩ (.load b n (.tmp i))<;>cases Xa ⟨t,m⟩ l<;>rfl
end
def zx:=(And.intro (And.intro (And.intro (And.intro (And.intro (And.intro (And.intro (And.intro (And.intro @yU @mX) (And.intro @CV @KV)) (And.intro (And.intro @yB @WS) (And.intro @sY @S9))) (And.intro (And.intro (And.intro @xV @D4) (And.intro @J6 @I9)) (And.intro (And.intro @iV @XS) (And.intro @C1 @GQ)))) (And.intro (And.intro (And.intro (And.intro @LP @kX) (And.intro @qU @EV)) (And.intro (And.intro @DT @HS) (And.intro @LQ @iU))) (And.intro (And.intro (And.intro @pR @pU) (And.intro @gJ @Z4)) (And.intro (And.intro @SX @WL) (And.intro @EK @NN))))) (And.intro (And.intro (And.intro (And.intro (And.intro @KY @q_mm) (And.intro @N1 @iY)) (And.intro (And.intro @NV @gM) (And.intro @YQ @ZT))) (And.intro (And.intro (And.intro @sZ @pW) (And.intro @wT @qT)) (And.intro (And.intro @xK @XZ) (And.intro @jZ @xQ)))) (And.intro (And.intro (And.intro (And.intro @RQ @q9) (And.intro @G9 @IT)) (And.intro (And.intro @nS @LM) (And.intro @vM @sG))) (And.intro (And.intro (And.intro @iH @BS) (And.intro @XI @tZ)) (And.intro (And.intro @TN @QT) (And.intro @wJ @cK)))))) (And.intro (And.intro (And.intro (And.intro (And.intro (And.intro @NQ @LS) (And.intro @RJ @wP)) (And.intro (And.intro @aK @oR) (And.intro @vL @Ow))) (And.intro (And.intro (And.intro @VF @VI) (And.intro @nO @kQ)) (And.intro (And.intro @XL @JY) (And.intro @W9 @O1)))) (And.intro (And.intro (And.intro (And.intro @wX @aU) (And.intro @MW @C2)) (And.intro (And.intro @T2 @T5) (And.intro @MS @zM))) (And.intro (And.intro (And.intro @zT @VW) (And.intro @SQ @lR)) (And.intro (And.intro @QS @QV) (And.intro @XQ @mO))))) (And.intro (And.intro (And.intro (And.intro (And.intro @VS @pZ) (And.intro @PT @CO)) (And.intro (And.intro @aZ @OW) (And.intro @AR @K0))) (And.intro (And.intro (And.intro @aY @xS) (And.intro @nV @nR)) (And.intro (And.intro @head_cons @LN) (And.intro @yM @SG)))) (And.intro (And.intro (And.intro (And.intro @TJ @MG) (And.intro @jT @PM)) (And.intro (And.intro @AO @mQ) (And.intro @fR @rZ))) (And.intro (And.intro (And.intro @dT @jM) (And.intro @SR @qN)) (And.intro (And.intro @DS @yP) (And.intro @mR @VV))))))) (And.intro (And.intro (And.intro (And.intro (And.intro (And.intro (And.intro @XX @DR) (And.intro @RL @oX)) (And.intro (And.intro @qW @RX) (And.intro @lX @TW))) (And.intro (And.intro (And.intro @ZY @XY) (And.intro @jX @VY)) (And.intro (And.intro @yY @yW) (And.intro @o7 @Z5)))) (And.intro (And.intro (And.intro (And.intro @T4 @D0) (And.intro @mA @xz)) (And.intro (And.intro @Nw @Waa.{0}) (And.intro @Uab.{0} @FQ))) (And.intro (And.intro (And.intro @IS @oS) (And.intro @false_and @and_false)) (And.intro (And.intro @true_or @or_true) (And.intro @or_self @false_or))))) (And.intro (And.intro (And.intro (And.intro (And.intro @or_false @JN) (And.intro @eq_self.{1} @xm)) (And.intro (And.intro @J7 @V5) (And.intro @bne_self_eq_false.{0} @bne_iff_ne.{0}))) (And.intro (And.intro (And.intro @bne_eq_false_iff_eq.{0} @naa) (And.intro @Bool.true_eq_false @false_implies)) (And.intro (And.intro @true_implies @implies_true.{1}) (And.intro @not_true_eq_false @not_false_eq_true)))) (And.intro (And.intro (And.intro (And.intro @beq_self_eq_true.{0} @wN) (And.intro @UI @Uz)) (And.intro (And.intro @eM @HP) (And.intro @EB @CJ))) (And.intro (And.intro (And.intro @qR @RW) (And.intro @MK @UR)) (And.intro (And.intro @wW @eP) (And.intro @wS @Option.bind_some.{0,0})))))) (And.intro (And.intro (And.intro (And.intro (And.intro (And.intro @Nat.mul_one @Int.toNat_natCast) (And.intro @Int.natCast_nonneg @EM)) (And.intro (And.intro @RM @DM) (And.intro @Nat.lt_add_one @Pae))) (And.intro (And.intro (And.intro @true_and @and_true) (And.intro @and_self @Bool.or_false)) (And.intro (And.intro @Bool.false_or @Bool.or_true) (And.intro @Bool.true_or @Bool.or_self)))) (And.intro (And.intro (And.intro (And.intro @lK @vab.{0}) (And.intro @pab.{0} @Yaa.{0})) (And.intro (And.intro @sab.{0} @Daa.{0}) (And.intro @Hab.{0} @List.set_cons_succ.{0}))) (And.intro (And.intro (And.intro @List.set_cons_zero.{0} @eab.{0,0}) (And.intro @Xac.{0,0} @Vab.{0,0})) (And.intro (And.intro @Option.map_none.{0,0} @gV) (And.intro @decide_true @cond_true.{1}))))) (And.intro (And.intro (And.intro (And.intro (And.intro @cond_false.{1} @if_true.{1}) (And.intro @if_false.{1} @decide_eq_true_eq)) (And.intro (And.intro @decide_eq_false_iff_not @Oab) (And.intro @Gaa @Nat.succ_ne_self))) (And.intro (And.intro (And.intro @Bool.not_true @Bool.not_false) (And.intro @TR @decide_false)) (And.intro (And.intro @beq_iff_eq.{0} @beq_eq_false_iff_ne.{0}) (And.intro @ne_eq.{1} @Xab)))) (And.intro (And.intro (And.intro (And.intro @Jab @gab.{0,0}) (And.intro @yaa @ite_true.{1})) (And.intro (And.intro @ite_false.{1} @Naa.{0}) (And.intro @List.drop_succ_cons.{0} @lac.{0}))) (And.intro (And.intro (And.intro @List.take_succ_cons.{0} @List.take_zero.{0}) (And.intro @Dab.{0,0} @List.length_append.{0})) (And.intro (And.intro @Bab @jad) (And.intro @bac.{0} @rad.{0})))))))) (And.intro (And.intro (And.intro (And.intro @Vab.{0,0} @pY) (And.intro @RR @h2_z)) (And.intro (And.intro @T9 @n9) (And.intro @paa @kl))) (And.intro (And.intro (And.intro @Dk @ow) (And.intro @sI @nY)) (And.intro @WQ @NX))))
theorem AQ{α:Type}{e:α→D} [Fr e] {f:D→D→Prop}{l:List α}:Es f (l.map e) (l.map e)=True:=Df (Fr.l l)
theorem V8{x:Nat}:(0=x+1)=False:=by simp
theorem nS_z{x:Nat}:(x+1=0)=False:=by simp
theorem nS_S{x y:Nat}:(x+1=y+1)=(x=y):=by simp
def zq:=(And.intro (And.intro (And.intro (And.intro (And.intro (And.intro @V8 @nS_z) (And.intro @nS_S @AQ)) (And.intro (And.intro @oU @lP) (And.intro @W0 @VR))) (And.intro (And.intro (And.intro @jU @sq_v) (And.intro @pX @GV)) (And.intro (And.intro @dS @U4) (And.intro @YT @PN)))) (And.intro (And.intro (And.intro (And.intro @AY @XN) (And.intro @DY @GR)) (And.intro (And.intro @l7 @NR) (And.intro @Y1 @uX))) (And.intro (And.intro (And.intro @bT @fX) (And.intro @SP @JK)) (And.intro (And.intro @kl @Dk) (And.intro @OZ @C5))))) (And.intro (And.intro (And.intro (And.intro (And.intro @MT @OP) (And.intro @cY @bac.{0})) (And.intro (And.intro @rad.{0} @and_self) (And.intro @and_true @true_and))) (And.intro (And.intro (And.intro @or_true @true_or) (And.intro @eq_self.{1} @Waa.{0})) (And.intro (And.intro @Uab.{0} @zaa.{0}) (And.intro @Aaa.{0,0} @Xac.{0,0})))) (And.intro (And.intro (And.intro (And.intro @eab.{0,0} @Cab.{0,0}) (And.intro @sab.{0} @exists_eq'.{1})) (And.intro (And.intro @Gaa @Oab) (And.intro @bne_iff_ne.{0} @ne_eq.{1}))) (And.intro @not_false_eq_true @paa))))
def zs:=(And.intro (And.intro (And.intro @Yaa.{0} @sab.{0}) (And.intro @Daa.{0} @Hab.{0})) (And.intro (And.intro @Xab @kl) @Dk))
end Go.Tm
namespace Go.Tm
variable {P:Program} {N:Nat}
class StbC (N:Nat) (K:Exit→St→Prop):Prop where
 h:uU N K
instance {b:C}{K:Exit→St→Prop}:StbC N (KS P N b K):=⟨w5⟩
instance {id:Nat}{K:Exit→St→Prop} [h:StbC N K]:StbC N (KB id K):=⟨T6 h.h⟩
instance {σ β ρ:Type}{id:Nat}{K:Exit→St→Prop}{S:σ→St}{B:β→St}{z:Ex σ β ρ}:StbC N (KL N id K S B z):=⟨TZ⟩
instance {X R:Type}{K:Exit→St→Prop}{S:X→St}{z:X⊕R}:StbC N (KJ N K S z):=⟨D7⟩
instance {rs:List RV}{o:D}:StbC 0 (YA rs o):=⟨W7⟩
theorem T.iP{σ β ρ:Type}{id:Nat}{K:Exit→St→Prop} [hst:StbC N K] {x:C}{s:St}(S:σ→St) (B:β→St) (step:σ→Option (Ex σ β ρ)) (x0:σ) {y:β⊕ρ}(hy:Tm.ia step x0=some y) (hs:Tells N s (S x0))
 (round:∀a z,step a=some z→(∀v,z=.ret v→y=.inr v)→Tm.T P N x (KL N id K S B z) (S a))
 (rest:∀b,y=.inl b→K .normal (B b)):Tm.T P N (.block id (.loop x)) K s:=T.ia S B step x0 hy hs hst.h round rest
theorem Rx:fa []=true:=rfl
theorem Vz{α:Type}{e:α→D} [Fr e] {x:α}{l:List D}(h:fa l=true):fa (e x::l)=true:=by
 simp only[fa,Fr.h,h,Xaa]
theorem fL{k:FuncId}{q l:List D}(hc:fa q=true) (h:fa l=true):fa (.fn k [] q::l)=true:=by
 simp only[fa,la,hc,h,Xaa]
theorem xL{k:Nat}{d d':D}{q:List D}{o:D}{m:List Ent}{f:D→List Ent→Prop}(h:Den P k ([d']++q) o) (hq:fa q=true) (hf:f o m) (hs:Sq [] [] 9 d d'):qe P k (d::q) m f:=
 Ub (m1:=m) (d1:=o) ⟨(h m).1,fun G w vs hv hi=>(h m).2 G w vs ((Az (Xq 9 d d' q q hs (Sbs.free hq))).1 vs hv) hi⟩ hf
theorem BY{rs:List RV}{o:D}{s:St}(h:lE (Xa s rs) s.m o):YA rs o .normal s:=by
 obtain⟨ds,h1,h2⟩:=h;exact⟨s,.refl s,ds,h1,h2⟩
def uo{α:Type}(l:List α) (hi:Int):Option (List α):=if 0≤hi∧hi.toNat≤l.length then some (l.take hi.toNat)else none
def Zx{α:Type}(l:List α) (lo:Int):Option (List α):=if 0≤lo∧lo.toNat≤l.length then some (l.drop lo.toNat)else none
section
variable {α:Type} {e:α→D} {l r x:List α} {i:Int} {y:α} {b:Nat}
theorem W1(h:idx l i=some y):0≤i∧l[i.toNat]?=some y:=As h
theorem A0(h:idx l i=some y):0≤i∧l[i.toNat]?=some y∧i.toNat<l.length:=by
 obtain⟨h1,h2⟩:=As h;refine⟨h1,h2,?_⟩;rcases Taa i.toNat l.length with h3|h3
 ·exact h3
 ·rw[Saa h3]at h2;cases h2
theorem CI(h:app b l r=some x):(l.length+r.length)*b≤2 ^ 47∧l.map e++r.map e=x.map e:=by
 obtain⟨h1,rfl⟩:=jO h;exact⟨h1,List.map_append.symm⟩
theorem NO(h:put l i y=some x):i.toNat<l.length∧(l.map e).set i.toNat (e y)=x.map e:=by
 obtain⟨h0,h1,rfl⟩:=UP h;exact⟨h1,List.map_set.symm⟩
theorem WD{n c:Int}(h:au b y n c=some x):0≤n∧n≤c∧c≤2 ^ 62∧c.toNat*b≤2 ^ 48∧maa n.toNat (e y)=x.map e:=by
 obtain⟨h0,h1,h2,h3,rfl⟩:=uP h;exact⟨h0,h1,h2,h3,List.map_replicate.symm⟩
theorem VC(h:uo l i=some x):0≤i∧i.toNat≤l.length∧((l.map e).drop 0).take (i.toNat-0)=x.map e:=by
 unfold uo at h;split at h
 ·rename_i hc;obtain rfl:=Uaa h;exact⟨hc.1,hc.2,by rw[lac,jad,laf]⟩
 ·cases h
theorem wQ(h:uo l i=some x):0≤i∧i.toNat≤l.length∧(l.map e).take i.toNat=x.map e:=by
 obtain⟨h1,h2,h3⟩:=VC (e:=e) h;rw[lac,jad]at h3;exact⟨h1,h2,h3⟩
theorem fQ(h:Zx l i=some x):0≤i∧i.toNat≤l.length∧((l.map e).drop i.toNat).take (l.length-i.toNat)=x.map e:=by
 unfold Zx at h;split at h
 ·rename_i hc;obtain rfl:=Uaa h;refine⟨hc.1,hc.2,?_⟩;rw[maf];exact kac (by simp)
 ·cases h
theorem MI(h:Zx l i=some x):0≤i∧i.toNat≤l.length∧((l.map e).take l.length).drop i.toNat=x.map e:=by
 obtain⟨h1,h2,h3⟩:=fQ (e:=e) h;refine⟨h1,h2,?_⟩;rw[←h3,kac (by simp),kac (by simp)]
theorem oW(h:Zx l i=some x):0≤i∧i.toNat≤l.length∧i.toNat+x.length≤l.length∧l.length-i.toNat=x.length∧((l.map e).drop i.toNat).take x.length=x.map e:=by
 obtain⟨h1,h2,h3⟩:=fQ (e:=e) h;have h4:l.length-i.toNat=x.length:=by
  have:=congrArg List.length h3;simpa using this
 exact⟨h1,h2,by omega,h4,by rw[←h4];exact h3⟩
theorem OU{k:IntKind}{a c d:Int}(h:quo k a c=some d):¬c=0∧ca k (a.tdiv c)=d:=by
 unfold quo at h;split at h
 ·cases h
 ·exact⟨by assumption,Uaa h⟩
theorem CU{k:IntKind}{a c d:Int}(h:rem k a c=some d):¬c=0∧a.tmod c=d:=by
 unfold rem at h;split at h
 ·cases h
 ·exact⟨by assumption,Uaa h⟩
end
theorem Pw:∀n:Nat,Tm.ds n []=maa n .dead
 |0=>rfl
 |n+1=>by rw[Dk,Pw n];rfl
theorem Den.at{k:Nat}{F:Fun}{l:List D}{o:D}(n:Nat) (hF:vq P k=some F) (hname:((P.funcs[k]?).map fun fn=>fn.name == "runtime.NumGoroutine")=some false) (hf:fa l=true)
 (hn:F.ntmps=l.length+n) (h:T P 0 F.code (YA F.results o) ⟨l++Tm.ds n [],[]⟩):Den P k l o:=by
 refine Den.of hF hname hf ?_;rw[hn,Kac,←Pw];exact h
end Go.Tm
namespace Go.Tm
section
variable {P:Program} {N:Nat} {ops:Array Oper} {Q:Exit→Act→World→Prop} {K:St→Prop} {rl:List RI} {q:Nat} {ps:List (List Nat)}
def PJ(R:List (List Nat)→St→Prop) (fp:List (List Nat)) (p:List Nat) (dst:Option Tmp) (i:I) (s:St):Prop:=
 Yu fp (wj s (.op dst none i)) p=true∧De s i=true∧ym (ea s i) (KO (R (fp++[wj s (.op dst none i)])) s dst)
def MY(R:List (List Nat)→St→Prop) (fp:List (List Nat)) (p:List Nat) (dst:Option Tmp) (i:I) (s:St):Prop:=
 Yu fp (wj s (.op dst none i)) p=true∧R (fp++[wj s (.op dst none i)]) (s.put dst (.v undef))
def Er(P:Program) (k:FuncId) (ds:List D) (ids:List Nat) (R:St→Prop) (s:St) (dst:Option Tmp):Prop:=
 ∃d,((∀id∈ids,id<s.m.length)∧∀m,(∀id∈ids,m[id]?=s.m[id]?)→CallT P k ds m fun d' m'=>d'=d∧m'=m)∧R (s.put dst d)
def ZN(P:Program) (R:List (List Nat)→St→Prop) (fp:List (List Nat)) (p:List Nat) (k:FuncId) (dst:Option Tmp) (args:List Operand) (s:St):Prop:=Yu fp (eb s args) p=true∧Er P k (args.map s.ev) (eb s args) (R (fp++[eb s args])) s dst
def A6(R:List (List Nat)→St→Prop) (fp:List (List Nat)) (p:List Nat) (dst:Option Tmp) (args:List Operand) (s:St):Prop:=Yu fp (eb s args) p=true∧R (fp++[eb s args]) (s.put dst (.v undef))
def Wp(P:Program):List (List Nat)→Nat→List RI→(St→Prop)→List (List Nat)→St→Prop
 |_,0,l,K,_,s=>Wf P l K s
 |_,_+1,[],_,_,_=>False
 |ps,q+1,.op dst none i::l,K,fp,s=>PJ (Wp P ps.tail q l K) fp (ps.headD []) dst i s
 |ps,q+1,.op dst (some (t,b)) i::l,K,fp,s=>
  gD (s.t.getD t .dead) b (PJ (Wp P ps.tail q l K) fp (ps.headD []) dst i) ⟨s.t.set t (.v (.bool b)),s.m⟩ (MY (Wp P ps.tail q l K) fp (ps.headD []) dst i) ⟨s.t.set t (.v (.bool (!b))),s.m⟩ s
 |ps,q+1,.call dst none (.func k) args::l,K,fp,s=>ZN P (Wp P ps.tail q l K) fp (ps.headD []) k dst args s
 |ps,q+1,.call dst (some (t,b)) (.func k) args::l,K,fp,s=>
  gD (s.t.getD t .dead) b (ZN P (Wp P ps.tail q l K) fp (ps.headD []) k dst args) ⟨s.t.set t (.v (.bool b)),s.m⟩ (A6 (Wp P ps.tail q l K) fp (ps.headD []) dst args) ⟨s.t.set t (.v (.bool (!b))),s.m⟩ s
 |_,_+1,.call ..::_,_,_,_=>False
theorem nA{d:D}{b:Bool}{t:List D}{i:Nat}(hd:t.getD i .dead=d) {m:List Ent}{R1 R2:St→Prop}(h:gD d b R1 ⟨t.set i (.v (.bool b)),m⟩ R2 ⟨t.set i (.v (.bool (!b))),m⟩ ⟨t,m⟩) :
 match gate ⟨t,m⟩ (some (i,b))with
 |none=>False
 |some none=>True
 |some (some (c,b))=>(c=b→R1 ⟨t,m⟩)∧(c≠b→R2 ⟨t,m⟩):=by
 simp only[gate,hd];unfold gD at h
 cases d with
 |v x=>
  cases x with
  |bool c=>
   simp only[gQ]at h⊢;have hs:=Nv hd (by simp);refine⟨fun hc=>?_,fun hc=>?_⟩
   ·subst hc;have:=h.1 rfl;rwa [hs]at this
   ·have:=h.2 hc;rwa [show(!b)=c by cases b<;>cases c<;>simp_all,hs]at this
  |_=>cases b<;>simpa using h
 |_=>exact h
theorem Mx:∀{q:Nat}{l:List RI}{ps:List (List Nat)}{fp:List (List Nat)}{s:St},Wp P ps q l K fp s→Ur P ps fp q l K s
 |0,l,ps,fp,s,h=>by simp only[Wp]at h;simp only[Ur];exact Un h
 |q+1,[],ps,fp,s,h=>by simp only[Wp]at h
 |q+1,.op dst none i::l,ps,fp,s,h=>by
  simp only[Wp,PJ]at h;obtain⟨h1,h0,h2⟩:=h;simp only[Ur,gate];obtain⟨d,m',h3,h4⟩:=(fj _ _).1 h2;exact⟨h1,d,m',h0,h3,Mx h4⟩
 |q+1,.op dst (some (t,b)) i::l,ps,fp,⟨st,sm⟩,h=>by
  simp only[Wp]at h;have h:=nA rfl h;have hrid:∀s,wj s (.op dst (some (t,b)) i)=wj s (.op dst none i):=fun _=>rfl;simp only[Ur];rw[hrid];split at h
  ·exact h.elim
  ·rename_i hg;simp only[gate]at hg;split at hg<;>simp at hg
  ·rename_i c b' hg;simp only[hg];by_cases hc:c=b'
   ·obtain⟨h1,h0,h2⟩:=h.1 hc;obtain⟨d,m',h3,h4⟩:=(fj _ _).1 h2;exact⟨h1,fun _=>⟨d,m',h0,h3,Mx h4⟩,fun hn=>(hn hc).elim⟩
   ·obtain⟨h1,h2⟩:=h.2 hc;exact⟨h1,fun hn=>(hc hn).elim,fun _=>Mx h2⟩
 |q+1,.call dst none (.func k) args::l,ps,fp,s,h=>by
  simp only[Wp,ZN,Er]at h;obtain⟨h0,d,h1,h2⟩:=h;simp only[Ur,gate];exact⟨h0,d,by simpa only[sab,Naa] using h1,Mx h2⟩
 |q+1,.call dst (some (t,b)) (.func k) args::l,ps,fp,⟨st,sm⟩,h=>by
  simp only[Wp]at h;have h:=nA rfl h;simp only[Ur];have hev:St.cv ⟨st,sm⟩ (.func k)=.fn k [] []:=rfl;simp only[hev];split at h
  ·exact h.elim
  ·rename_i hg;simp only[gate]at hg;split at hg<;>simp at hg
  ·rename_i c b' hg;simp only[hg];by_cases hc:c=b'
   ·obtain⟨h0,d,h1,h2⟩:=h.1 hc;exact⟨h0,fun _=>⟨d,by simpa only[sab,Naa] using h1,Mx h2⟩,fun hn=>(hn hc).elim⟩
   ·obtain⟨h0,h2⟩:=h.2 hc;exact⟨h0,fun hn=>(hc hn).elim,fun _=>Mx h2⟩
 |q+1,.call dst none (.tmp _) args::l,ps,fp,s,h=>by simp only[Wp]at h
 |q+1,.call dst none (.const _) args::l,ps,fp,s,h=>by simp only[Wp]at h
 |q+1,.call dst none (.global _) args::l,ps,fp,s,h=>by simp only[Wp]at h
 |q+1,.call dst (some _) (.tmp _) args::l,ps,fp,s,h=>by simp only[Wp]at h
 |q+1,.call dst (some _) (.const _) args::l,ps,fp,s,h=>by simp only[Wp]at h
 |q+1,.call dst (some _) (.global _) args::l,ps,fp,s,h=>by simp only[Wp]at h
 |q+1,.call dst none (.meth _ _) args::l,ps,fp,s,h=>by simp only[Wp]at h
 |q+1,.call dst (some _) (.meth _ _) args::l,ps,fp,s,h=>by simp only[Wp]at h
theorem T.dy(hm:P.follows .mixedOrders=true) {l:List RI}{K:Exit→St→Prop}{s:St}(h:Wp P [] q l (K .normal) [] s):T P N (.draw q l) K s:=
 T.V0 hm (zp (Mx h))
theorem T.ay(hm:P.follows .mixedOrders=true) {cuts:List Nat}{bs:List (List Nat)}{l:List RI}{K:Exit→St→Prop}{s:St}(ps:List (List Nat)) (hok:rp bs l q ps []=true) (h:Wp P ps q l (K .normal) [] s):T P N (.any cuts q bs l) K s:=
 T.baa hm ps hok (Mx h)
end
section
variable {P:Program}
theorem DC{k:Nat}{ds ds':List D}{o:D}{R:St→Prop}{s:St}{dst:Option Tmp}(h:Den P k ds' o) (hf:R (s.put dst o)) (hs:Tx (Sq [] [] 9) ds ds'):Er P k ds [] R s dst:=
 ⟨o,⟨fun _ h=>(by cases h),fun m _=>⟨(h m).1,fun G w vs hv hi=>(h m).2 G w vs ((Az (tt (Xq 9) hs)).1 vs hv) hi⟩⟩,hf⟩
def Lq(m:List Ent) (d e:D):Prop:=
 match d,e with
 |.own j v,.sl S b=>match m[j]? with|some (.live S' v' a)=>S'=S∧v'=v∧a=b∧fa a=true|_=>False
 |.view j v lo n,.sl S b=>match m[j]? with|some (.live S' v' a)=>S'=S∧v'=v∧lo+n≤a.length∧(a.drop lo).take n=b∧fa b=true|_=>False
 |.ref j v x s,.pt e=>match m[j]? with|some (.live _ v' a)=>v'=v∧s=0∧a[x]?=some e∧la e=true|_=>False
 |d,e=>Sq [] [] 9 d e
theorem NW{l r:List D}(h:Sbs [] [] l r) (m:List Ent):Sbs [] m l r:=by
 induction h with
 |nil=>exact .nil
 |same hf h ih=>exact .same hf ih
 |dead h ih=>exact .dead ih
 |nils h ih=>exact .nils ih
 |agg ha h iha ih=>exact .agg iha ih
 |tup ha h iha ih=>exact .tup iha ih
 |sl ha h iha ih=>exact .sl iha ih
 |pt ha h iha ih=>exact .pt iha ih
 |fn ha hc h iha ihc ih=>exact .fn iha ihc ih
 |ifc ha h iha ih=>exact .ifc iha ih
 |ax i hi=>simp at hi
 |own hi=>simp at hi
 |ref hi=>simp at hi
 |view hi=>simp at hi
 |mp hi=>simp at hi
 |Vd hm=>simp at hm
 |fview hm=>simp at hm
 |fref hm=>simp at hm
theorem iW{m m':List Ent}{ids:List Nat}(hm:∀id∈ids,m'[id]?=m[id]?) {d e:D}{l r:List D}(h:Lq m d e) (hid:(match tc d with|some j=>ids.contains j|none=>true)=true) (hs:Sbs [] m' l r):Sbs [] m' (d::l) (e::r):=by
 unfold Lq at h;split at h
 ·rename_i j v S b;simp only[tc,xaa]at hid;split at h
  ·rename_i S' v' a hj;obtain⟨rfl,rfl,rfl,hf⟩:=h;exact .Vd (by rw[hm j hid];exact hj) rfl (Sbs.free hf) hs
  ·exact h.elim
 ·rename_i j v lo n S b;simp only[tc,xaa]at hid;split at h
  ·rename_i S' v' a hj;obtain⟨rfl,rfl,hn,rfl,hf⟩:=h;exact .fview (by rw[hm j hid];exact hj) rfl hn (Sbs.free hf) hs
  ·exact h.elim
 ·rename_i j v x s e;simp only[tc,xaa]at hid;split at h
  ·rename_i S' v' a hj;obtain⟨rfl,rfl,hx,hf⟩:=h;exact .fref (by rw[hm j hid];exact hj) rfl hx (.same hf .nil) hs
  ·exact h.elim
 ·have h1:=NW (Xq 9 d e [] [] h .nil) m';exact Sbs.app (a:=[d]) (b:=[e]) h1 hs
def wx(ids:List Nat) (ds:List D):Bool:=ds.all fun d=>match tc d with|some j=>ids.contains j|none=>true
theorem Ay{m m':List Ent}{ids:List Nat}(hm:∀id∈ids,m'[id]?=m[id]?):∀{a b:List D},Tx (Lq m) a b→wx ids a=true→Sbs [] m' a b
 |[],[],_,_=>.nil
 |d::l,e::r,h,ht=>by
  simp only[wx,tac,paa]at ht;exact iW hm h.1 ht.1 (Ay hm h.2 ht.2)
 |[],_::_,h,_=>h.elim
 |_::_,[],h,_=>h.elim
theorem gz{k:Nat}{ids:List Nat}{ds ds':List D}{o:D}{R:St→Prop}{s:St}{dst:Option Tmp}(h:Den P k ds' o) (hf:R (s.put dst o)) (hfl:flat o=true) (hi:(ids.all fun i=>decide (i<s.m.length))=true) (ht:wx ids ds=true) (hs:Tx (Lq s.m) ds ds'):Er P k ds ids R s dst:=by
 refine⟨o,⟨fun id hid=>?_,fun m hm=>?_⟩,hf⟩
 ·rw[Raa]at hi;simpa using hi id hid
 ·exact Ou h (Ay hm hs ht) hfl ⟨rfl,rfl⟩
variable {m:List Ent} {S x y lo n s:Nat} {b:List D} {e:D}
theorem AV:Lq m (.own x y) (.sl S b)=(match m[x]? with|some (.live S' v' a)=>S'=S∧v'=y∧a=b∧fa a=true|_=>False):=kaa rfl rfl
theorem IQ:Lq m (.view x y lo n) (.sl S b)=(match m[x]? with|some (.live S' v' a)=>S'=S∧v'=y∧lo+n≤a.length∧(a.drop lo).take n=b∧fa b=true|_=>False):=kaa rfl rfl
theorem gZ{z:Nat}:Lq m (.ref x y z s) (.pt e)=(match m[x]? with|some (.live _ v' a)=>v'=y∧s=0∧a[z]?=some e∧la e=true|_=>False):=kaa rfl rfl
theorem lq_v{z:Value}:Lq m (.v z) e=Sq [] [] 9 (.v z) e:=kaa rfl rfl
theorem qV{z:List D}:Lq m (.agg z) e=Sq [] [] 9 (.agg z) e:=kaa rfl rfl
theorem F1{z:List D}:Lq m (.sl S z) e=Sq [] [] 9 (.sl S z) e:=kaa rfl rfl
theorem X1{z:D}:Lq m (.pt z) e=Sq [] [] 9 (.pt z) e:=kaa rfl rfl
theorem w6{α:Type}{f:α→D} [Fr f] {l:List α}:fa (l.map f)=true:=Fr.l l
theorem yX{α:Type}{f:α→D}{l:List α}:(l.map f).length=l.length:=gab f
end
end Go.Tm
namespace Go.Tm
variable {P:Program}
theorem LZ{s:St}{d:Option Tmp}{g:Option (Tmp×Bool)}{u0:Operand}:wj s (.op d g (.mv u0))=[]:=kaa rfl rfl
theorem M5{s:St}{u0:Operand}:De s (.mv u0)=true:=kaa rfl rfl
theorem TS{s:St}{d:Option Tmp}{g:Option (Tmp×Bool)}{u0:Operand}{u1:Operand}{u2:Operand}:wj s (.op d g (.pick u0 u1 u2))=[]:=kaa rfl rfl
theorem KT{s:St}{u0:Operand}{u1:Operand}{u2:Operand}:De s (.pick u0 u1 u2)=true:=kaa rfl rfl
theorem HW{s:St}{d:Option Tmp}{g:Option (Tmp×Bool)}{u0:BinOp}{u1:Operand}{u2:Operand}:wj s (.op d g (.bin u0 u1 u2))=[]:=kaa rfl rfl
theorem fW{s:St}{u0:BinOp}{u1:Operand}{u2:Operand}:De s (.bin u0 u1 u2)=true:=kaa rfl rfl
theorem WY{s:St}{d:Option Tmp}{g:Option (Tmp×Bool)}{u0:Bool}{u1:Operand}{u2:Operand}:wj s (.op d g (.beq u0 u1 u2))=[]:=kaa rfl rfl
theorem IX{s:St}{u0:Bool}{u1:Operand}{u2:Operand}:De s (.beq u0 u1 u2)=true:=kaa rfl rfl
theorem J0{s:St}{d:Option Tmp}{g:Option (Tmp×Bool)}{u0:UnOp}{u1:Operand}:wj s (.op d g (.un u0 u1))=[]:=kaa rfl rfl
theorem M4{s:St}{u0:UnOp}{u1:Operand}:De s (.un u0 u1)=true:=kaa rfl rfl
theorem bU{s:St}{d:Option Tmp}{g:Option (Tmp×Bool)}{u0:IntKind}{u1:Operand}:wj s (.op d g (.conv u0 u1))=[]:=kaa rfl rfl
theorem UT{s:St}{u0:IntKind}{u1:Operand}:De s (.conv u0 u1)=true:=kaa rfl rfl
theorem tN{s:St}{d:Option Tmp}{g:Option (Tmp×Bool)}{u0:Nat}{u1:D}:wj s (.op d g (.alloc u0 u1))=[]:=kaa rfl rfl
theorem ZM{s:St}{u0:Nat}{u1:D}:De s (.alloc u0 u1)=true:=kaa rfl rfl
theorem YY{s:St}{d:Option Tmp}{g:Option (Tmp×Bool)}{u0:Nat}{u1:Operand}:wj s (.op d g (.box u0 u1))=[]:=kaa rfl rfl
theorem fY{s:St}{u0:Nat}{u1:Operand}:De s (.box u0 u1)=true:=kaa rfl rfl
theorem fO{s:St}{d:Option Tmp}{g:Option (Tmp×Bool)}{u0:List D}{u1:List (Nat×Nat×Operand)}:wj s (.op d g (.build u0 u1))=[]:=kaa rfl rfl
theorem kO{s:St}{u0:List D}{u1:List (Nat×Nat×Operand)}:De s (.build u0 u1)=true:=kaa rfl rfl
theorem sJ{s:St}{d:Option Tmp}{g:Option (Tmp×Bool)}{u0:Nat}{u1:Nat}{u2:D}{u3:List (Nat×Operand)}:wj s (.op d g (.bslice u0 u1 u2 u3))=[]:=kaa rfl rfl
theorem rK{s:St}{u0:Nat}{u1:Nat}{u2:D}{u3:List (Nat×Operand)}:De s (.bslice u0 u1 u2 u3)=true:=kaa rfl rfl
theorem CQ{s:St}{d:Option Tmp}{g:Option (Tmp×Bool)}{u0:Bool}{u1:Nat}{u2:Operand}:wj s (.op d g (.load u0 u1 u2))=fo s [u2]:=kaa rfl rfl
theorem vS{s:St}{u0:Bool}{u1:Nat}{u2:Operand}:De s (.load u0 u1 u2)=true:=kaa rfl rfl
theorem YL{s:St}{d:Option Tmp}{g:Option (Tmp×Bool)}{u0:Nat}{u1:Operand}{u2:Operand}:wj s (.op d g (.store u0 u1 u2))=fo s [u1]:=kaa rfl rfl
theorem NP{s:St}{u0:Nat}{u1:Operand}{u2:Operand}:De s (.store u0 u1 u2)=true:=kaa rfl rfl
theorem JT{s:St}{d:Option Tmp}{g:Option (Tmp×Bool)}{u0:Operand}:wj s (.op d g (.nilc u0))=[]:=kaa rfl rfl
theorem cU{s:St}{u0:Operand}:De s (.nilc u0)=true:=kaa rfl rfl
theorem uM{s:St}{d:Option Tmp}{g:Option (Tmp×Bool)}{u0:Nat}{u1:Operand}{u2:Option Operand}{u3:Option Operand}{u4:Option Operand}:wj s (.op d g (.slice u0 u1 u2 u3 u4))=fo s [u1]:=kaa rfl rfl
theorem pP{s:St}{u0:Nat}{u1:Operand}{u2:Option Operand}{u3:Option Operand}{u4:Option Operand}:De s (.slice u0 u1 u2 u3 u4)=true:=kaa rfl rfl
theorem uL{s:St}{d:Option Tmp}{g:Option (Tmp×Bool)}{u0:Bool}{u1:Nat}{u2:Nat}{u3:Operand}:wj s (.op d g (.faddr u0 u1 u2 u3))=[]:=kaa rfl rfl
theorem rO{s:St}{u0:Bool}{u1:Nat}{u2:Nat}{u3:Operand}:De s (.faddr u0 u1 u2 u3)=true:=kaa rfl rfl
theorem QP{s:St}{d:Option Tmp}{g:Option (Tmp×Bool)}{u0:Bool}{u1:Nat}{u2:Nat}{u3:Operand}:wj s (.op d g (.field u0 u1 u2 u3))=[]:=kaa rfl rfl
theorem BP{s:St}{u0:Bool}{u1:Nat}{u2:Nat}{u3:Operand}:De s (.field u0 u1 u2 u3)=true:=kaa rfl rfl
theorem RO{s:St}{d:Option Tmp}{g:Option (Tmp×Bool)}{u0:Nat}{u1:Operand}{u2:Operand}:wj s (.op d g (.iaddr u0 u1 u2))=fo s [u1]:=kaa rfl rfl
theorem lO{s:St}{u0:Nat}{u1:Operand}{u2:Operand}:De s (.iaddr u0 u1 u2)=true:=kaa rfl rfl
theorem BM{s:St}{d:Option Tmp}{g:Option (Tmp×Bool)}{u0:Bool}{u1:Nat}{u2:Nat}{u3:Operand}{u4:Operand}:wj s (.op d g (.aaddr u0 u1 u2 u3 u4))=[]:=kaa rfl rfl
theorem EO{s:St}{u0:Bool}{u1:Nat}{u2:Nat}{u3:Operand}{u4:Operand}:De s (.aaddr u0 u1 u2 u3 u4)=true:=kaa rfl rfl
theorem XO{s:St}{d:Option Tmp}{g:Option (Tmp×Bool)}{u0:Bool}{u1:Nat}{u2:Nat}{u3:Operand}{u4:Operand}:wj s (.op d g (.index u0 u1 u2 u3 u4))=[]:=kaa rfl rfl
theorem nP{s:St}{u0:Bool}{u1:Nat}{u2:Nat}{u3:Operand}{u4:Operand}:De s (.index u0 u1 u2 u3 u4)=true:=kaa rfl rfl
theorem YG{s:St}{d:Option Tmp}{g:Option (Tmp×Bool)}{u0:Operand}{u1:Nat}:wj s (.op d g (.extract u0 u1))=[]:=kaa rfl rfl
theorem JG{s:St}{u0:Operand}{u1:Nat}:De s (.extract u0 u1)=true:=kaa rfl rfl
theorem WX{s:St}{d:Option Tmp}{g:Option (Tmp×Bool)}{u0:Operand}:wj s (.op d g (.len u0))=fo s [u0]:=kaa rfl rfl
theorem iX{s:St}{u0:Operand}:De s (.len u0)=true:=kaa rfl rfl
theorem BT{s:St}{d:Option Tmp}{g:Option (Tmp×Bool)}{u0:Operand}:wj s (.op d g (.slen u0))=[]:=kaa rfl rfl
theorem gR{s:St}{u0:Operand}:De s (.slen u0)=true:=kaa rfl rfl
theorem YK{s:St}{d:Option Tmp}{g:Option (Tmp×Bool)}{u0:Nat}{u1:Nat}{u2:Operand}{u3:Operand}:wj s (.op d g (.append u0 u1 u2 u3))=fo s [u2,u3]:=kaa rfl rfl
theorem yK{s:St}{u0:Nat}{u1:Nat}{u2:Operand}{u3:Operand}:De s (.append u0 u1 u2 u3)=(match s.ev u2 with|.own ..=>true|_=>false):=kaa rfl rfl
theorem CG{s:St}{d:Option Tmp}{g:Option (Tmp×Bool)}{u0:Nat}{u1:Nat}{u2:D}{u3:Operand}{u4:Operand}:wj s (.op d g (.mkslice u0 u1 u2 u3 u4))=[]:=kaa rfl rfl
theorem KG{s:St}{u0:Nat}{u1:Nat}{u2:D}{u3:Operand}{u4:Operand}:De s (.mkslice u0 u1 u2 u3 u4)=true:=kaa rfl rfl
theorem kJ{s:St}{d:Option Tmp}{g:Option (Tmp×Bool)}{u0:FuncId}{u1:List Operand}{u2:List Operand}:wj s (.op d g (.mkfunc u0 u1 u2))=[]:=kaa rfl rfl
theorem cJ{s:St}{u0:FuncId}{u1:List Operand}{u2:List Operand}:De s (.mkfunc u0 u1 u2)=true:=kaa rfl rfl
theorem kT{s:St}{d:Option Tmp}{g:Option (Tmp×Bool)}  : wj s (.op d g (.fail))=[]:=kaa rfl rfl
theorem ER{s:St}  : De s (.fail)=true:=kaa rfl rfl
theorem C0{s:St}{d:Option Tmp}{g:Option (Tmp×Bool)}{u0:Bool}{u1:List Operand}:wj s (.op d g (.mm u0 u1))=[]:=kaa rfl rfl
theorem p8{s:St}{u0:Bool}{u1:List Operand}:De s (.mm u0 u1)=true:=kaa rfl rfl
theorem iZ{s:St}{d:Option Tmp}{g:Option (Tmp×Bool)}{u0:Bool}{u1:List Nat}{u2:Operand}{u3:Operand}:wj s (.op d g (.ceq u0 u1 u2 u3))=[]:=kaa rfl rfl
theorem vX{s:St}{u0:Bool}{u1:List Nat}{u2:Operand}{u3:Operand}:De s (.ceq u0 u1 u2 u3)=true:=kaa rfl rfl
theorem ZQ{s:St}{d:Option Tmp}{g:Option (Tmp×Bool)}{u0:Nat}{u1:Operand}:wj s (.op d g (.strb u0 u1))=[]:=kaa rfl rfl
theorem uT{s:St}{u0:Nat}{u1:Operand}:De s (.strb u0 u1)=true:=kaa rfl rfl
theorem WT{s:St}{d:Option Tmp}{g:Option (Tmp×Bool)}{u0:Operand}{u1:Operand}:wj s (.op d g (.vr u0 u1))=[]:=kaa rfl rfl
theorem lT{s:St}{u0:Operand}{u1:Operand}:De s (.vr u0 u1)=true:=kaa rfl rfl
theorem iK{s:St}{d:Option Tmp}{g:Option (Tmp×Bool)}{u0:Operand}{u1:Option Operand}{u2:Option Operand}:wj s (.op d g (.sslice u0 u1 u2))=[]:=kaa rfl rfl
theorem pJ{s:St}{u0:Operand}{u1:Option Operand}{u2:Option Operand}:De s (.sslice u0 u1 u2)=true:=kaa rfl rfl
theorem UM{s:St}{d:Option Tmp}{g:Option (Tmp×Bool)}  : wj s (.op d g (.mkmap))=[]:=kaa rfl rfl
theorem pM{s:St}  : De s (.mkmap)=true:=kaa rfl rfl
theorem yL{s:St}{d:Option Tmp}{g:Option (Tmp×Bool)}{u0:Nat}{u1:Bool}{u2:D}{u3:Operand}{u4:Operand}:wj s (.op d g (.mlook u0 u1 u2 u3 u4))=fo s [u3]:=kaa rfl rfl
theorem fP{s:St}{u0:Nat}{u1:Bool}{u2:D}{u3:Operand}{u4:Operand}:De s (.mlook u0 u1 u2 u3 u4)=true:=kaa rfl rfl
theorem rT{s:St}{d:Option Tmp}{g:Option (Tmp×Bool)}{u0:Nat}{u1:Operand}{u2:Operand}{u3:Operand}:wj s (.op d g (.mput u0 u1 u2 u3))=[]:=kaa rfl rfl
theorem MQ{s:St}{u0:Nat}{u1:Operand}{u2:Operand}{u3:Operand}:De s (.mput u0 u1 u2 u3)=true:=kaa rfl rfl
theorem pT{s:St}{d:Option Tmp}{g:Option (Tmp×Bool)}{u0:Operand}:wj s (.op d g (.mlen u0))=fo s [u0]:=kaa rfl rfl
theorem BQ{s:St}{u0:Operand}:De s (.mlen u0)=true:=kaa rfl rfl
theorem pL{s:St}{d:Option Tmp}{g:Option (Tmp×Bool)}{u0:Nat}{u1:Operand}{u2:Option Operand}{u3:Option Operand}:wj s (.op d g (.trunc u0 u1 u2 u3))=fo s [u1]:=kaa rfl rfl
theorem aN{s:St}{u0:Nat}{u1:Operand}{u2:Option Operand}{u3:Option Operand}:De s (.trunc u0 u1 u2 u3)=(match s.ev u1 with|.own ..=>true|_=>false):=kaa rfl rfl
theorem oL{s:St}{d:Option Tmp}{g:Option (Tmp×Bool)}{u0:TypeId}{u1:Operand}:wj s (.op d g (.mkifc u0 u1))=[]:=kaa rfl rfl
theorem dP{s:St}{u0:TypeId}{u1:Operand}:De s (.mkifc u0 u1)=true:=kaa rfl rfl
theorem uH{s:St}{d:Option Tmp}{g:Option (Tmp×Bool)}{u0:Bool}{u1:TypeId}{u2:D}{u3:Operand}:wj s (.op d g (.tassert u0 u1 u2 u3))=[]:=kaa rfl rfl
theorem dH{s:St}{u0:Bool}{u1:TypeId}{u2:D}{u3:Operand}:De s (.tassert u0 u1 u2 u3)=true:=kaa rfl rfl
theorem cZ{s:St}{d:Option Tmp}{g:Option (Tmp×Bool)}{u0:Nat}{u1:D}{u2:Operand}:wj s (.op d g (.clr u0 u1 u2))=[]:=kaa rfl rfl
theorem mW{s:St}{u0:Nat}{u1:D}{u2:Operand}:De s (.clr u0 u1 u2)=true:=kaa rfl rfl
theorem dU{s:St}{d:Option Tmp}{g:Option (Tmp×Bool)}{u0:Operand}:wj s (.op d g (.capn u0))=[]:=kaa rfl rfl
theorem YS{s:St}{u0:Operand}:De s (.capn u0)=true:=kaa rfl rfl
theorem cQ{s:St}{d:Option Tmp}{g:Option (Tmp×Bool)}{u0:Bool}{u1:Operand}:wj s (.op d g (.nileq u0 u1))=fo s [u1]:=kaa rfl rfl
theorem DP{s:St}{u0:Bool}{u1:Operand}:De s (.nileq u0 u1)=true:=kaa rfl rfl
theorem vO{s:St}{d:Option Tmp}{g:Option (Tmp×Bool)}{u0:Nat}{u1:Nat}{u2:D}{u3:Operand}{u4:Operand}:wj s (.op d g (.mkapp u0 u1 u2 u3 u4))=[]:=kaa rfl rfl
theorem aQ{s:St}{u0:Nat}{u1:Nat}{u2:D}{u3:Operand}{u4:Operand}:De s (.mkapp u0 u1 u2 u3 u4)=true:=kaa rfl rfl
section
variable {ps:List (List Nat)} {q k t:Nat} {b:Bool} {dst:Option Tmp} {i:I} {l:List RI} {K:St→Prop} {fp:List (List Nat)} {s:St} {args:List Operand} {R:List (List Nat)→St→Prop} {p f g:List Nat} {x y:Nat} {o:Operand} {os:List Operand} {st:List D} {m:List Ent} {S:Nat} {r:List D}
theorem CR:Wp P ps 0 l K fp s=Wf P l K s:=by simp only[Wp]
theorem QZ:Wp P ps (q+1) (.op dst none i::l) K fp s=PJ (Wp P ps.tail q l K) fp (ps.headD []) dst i s:=by simp only[Wp]
theorem SY:Wp P ps (q+1) (.op dst (some (t,b)) i::l) K fp ⟨st,m⟩=gD (st.getD t .dead) b (PJ (Wp P ps.tail q l K) fp (ps.headD []) dst i) ⟨st.set t (.v (.bool b)),m⟩ (MY (Wp P ps.tail q l K) fp (ps.headD []) dst i) ⟨st.set t (.v (.bool (!b))),m⟩ ⟨st,m⟩:=by simp only[Wp]
theorem BR:Wp P ps (q+1) (.call dst none (.func k) args::l) K fp s=ZN P (Wp P ps.tail q l K) fp (ps.headD []) k dst args s:=by simp only[Wp]
theorem RP:Wp P ps (q+1) (.call dst (some (t,b)) (.func k) args::l) K fp ⟨st,m⟩=gD (st.getD t .dead) b (ZN P (Wp P ps.tail q l K) fp (ps.headD []) k dst args) ⟨st.set t (.v (.bool b)),m⟩ (A6 (Wp P ps.tail q l K) fp (ps.headD []) dst args) ⟨st.set t (.v (.bool (!b))),m⟩ ⟨st,m⟩:=by simp only[Wp]
theorem Y6:PJ R fp p dst i s=(Yu fp (wj s (.op dst none i)) p=true∧De s i=true∧ym (ea s i) (KO (R (fp++[wj s (.op dst none i)])) s dst)):=kaa rfl rfl
theorem B2:MY R fp p dst i s=(Yu fp (wj s (.op dst none i)) p=true∧R (fp++[wj s (.op dst none i)]) (s.put dst (.v undef))):=kaa rfl rfl
theorem r4:ZN P R fp p k dst args s=(Yu fp (eb s args) p=true∧Er P k (args.map s.ev) (eb s args) (R (fp++[eb s args])) s dst):=kaa rfl rfl
theorem V4:A6 R fp p dst args s=(Yu fp (eb s args) p=true∧R (fp++[eb s args]) (s.put dst (.v undef))):=kaa rfl rfl
theorem aX:eb s []=[]:=kaa rfl rfl
theorem eR:eb s (o::os)=pj (s.ev o)++eb s os:=kaa rfl rfl
theorem id_v{z:Value}:pj (.v z)=[]:=kaa rfl rfl
theorem pV:pj (.agg r)=Ai r:=kaa rfl rfl
theorem vV:pj (.tup r)=Ai r:=kaa rfl rfl
theorem E7:pj (.sl S r)=Ai r:=kaa rfl rfl
theorem E5{d:D}:pj (.pt d)=pj d:=kaa rfl rfl
theorem N6{a c:List D}:pj (.fn k a c)=Ai a++Ai c:=kaa rfl rfl
theorem bS:pj .dead=[]:=kaa rfl rfl
theorem QX:pj (.own x y)=[x]:=kaa rfl rfl
theorem TY{u v:Nat}:pj (.ref x y u v)=[x]:=kaa rfl rfl
theorem GS{u v:Nat}:pj (.view x y u v)=[x]:=kaa rfl rfl
theorem TV:Ai []=[]:=kaa rfl rfl
theorem FR{d:D}:Ai (d::r)=pj d++Ai r:=kaa rfl rfl
theorem id_map{α:Type}{f:α→D} [Fr f] {l:List α}:Ai (l.map f)=[]:=ep (Fr.l l)
theorem rP:fo s []=[]:=kaa rfl rfl
theorem rJ:fo s (o::os)=(match tc (s.ev o)with|some id=>id::fo s os|none=>fo s os):=kaa rfl rfl
theorem FV:Yu fp f []=true:=kaa rfl rfl
theorem VQ{j:Nat}:Yu fp f (j::p)=(gm (fp.getD j []) f&&Yu fp f p):=kaa rfl rfl
theorem K2:gm [] f=true:=kaa rfl rfl
theorem P2:gm (x::g) f=(Xr x f&&gm g f):=kaa rfl rfl
theorem A9:Xr x []=true:=kaa rfl rfl
theorem eaa:Xr x (y::g)=(rI x y&&Xr x g):=kaa rfl rfl
theorem O3:rI 0 0=false:=kaa rfl rfl
theorem F6:rI 0 (y+1)=true:=kaa rfl rfl
theorem Z3:rI (x+1) 0=true:=kaa rfl rfl
theorem n5:rI (x+1) (y+1)=rI x y:=kaa rfl rfl
theorem N5{z:Value}:tc (.v z)=none:=kaa rfl rfl
theorem PS:tc (.agg r)=none:=kaa rfl rfl
theorem DQ:tc (.tup r)=none:=kaa rfl rfl
theorem RY:tc (.sl S r)=none:=kaa rfl rfl
theorem rW{d:D}:tc (.pt d)=none:=kaa rfl rfl
theorem cP:tc .dead=none:=kaa rfl rfl
theorem sR:tc (.own x y)=some x:=kaa rfl rfl
theorem jR{u v:Nat}:tc (.ref x y u v)=some x:=kaa rfl rfl
theorem kM{u v:Nat}:tc (.view x y u v)=some x:=kaa rfl rfl
theorem G8{l:List Nat}{ps:List (List Nat)}:(l::ps).headD []=l:=kaa rfl rfl
theorem tl_n{l:List Nat}{ps:List (List Nat)}:(l::ps).tail=ps:=kaa rfl rfl
theorem Y8:([]:List (List Nat)).headD []=[]:=kaa rfl rfl
theorem tl_0:([]:List (List Nat)).tail=[]:=kaa rfl rfl
end
def zy:=(And.intro (And.intro (And.intro (And.intro (And.intro (And.intro (And.intro (And.intro @LZ @M5) (And.intro @TS @KT)) (And.intro (And.intro @HW @fW) (And.intro @WY @IX))) (And.intro (And.intro (And.intro @J0 @M4) (And.intro @bU @UT)) (And.intro (And.intro @tN @ZM) (And.intro @YY @fY)))) (And.intro (And.intro (And.intro (And.intro @fO @kO) (And.intro @sJ @rK)) (And.intro (And.intro @CQ @vS) (And.intro @YL @NP))) (And.intro (And.intro (And.intro @JT @cU) (And.intro @uM @pP)) (And.intro (And.intro @uL @rO) (And.intro @QP @BP))))) (And.intro (And.intro (And.intro (And.intro (And.intro @RO @lO) (And.intro @BM @EO)) (And.intro (And.intro @XO @nP) (And.intro @YG @JG))) (And.intro (And.intro (And.intro @WX @iX) (And.intro @BT @gR)) (And.intro (And.intro @YK @yK) (And.intro @CG @KG)))) (And.intro (And.intro (And.intro (And.intro @kJ @cJ) (And.intro @kT @ER)) (And.intro (And.intro @C0 @p8) (And.intro @iZ @vX))) (And.intro (And.intro (And.intro @ZQ @uT) (And.intro @WT @lT)) (And.intro (And.intro @iK @pJ) (And.intro @UM @pM)))))) (And.intro (And.intro (And.intro (And.intro (And.intro (And.intro @yL @fP) (And.intro @rT @MQ)) (And.intro (And.intro @pT @BQ) (And.intro @pL @aN))) (And.intro (And.intro (And.intro @oL @dP) (And.intro @uH @dH)) (And.intro (And.intro @cZ @mW) (And.intro @dU @YS)))) (And.intro (And.intro (And.intro (And.intro @cQ @DP) (And.intro @vO @aQ)) (And.intro (And.intro @CR @QZ) (And.intro @SY @BR))) (And.intro (And.intro (And.intro @RP @Y6) (And.intro @B2 @r4)) (And.intro (And.intro @V4 @aX) (And.intro @eR @id_v))))) (And.intro (And.intro (And.intro (And.intro (And.intro @pV @vV) (And.intro @E7 @E5)) (And.intro (And.intro @N6 @bS) (And.intro @QX @TY))) (And.intro (And.intro (And.intro @GS @TV) (And.intro @FR @id_map)) (And.intro (And.intro @rP @rJ) (And.intro @FV @VQ)))) (And.intro (And.intro (And.intro (And.intro @K2 @P2) (And.intro @A9 @eaa)) (And.intro (And.intro @O3 @F6) (And.intro @Z3 @n5))) (And.intro (And.intro (And.intro @N5 @PS) (And.intro @DQ @RY)) (And.intro (And.intro @rW @cP) (And.intro @sR @jR))))))) (And.intro (And.intro (And.intro (And.intro @kM @G8) (And.intro @tl_n @Y8)) (And.intro (And.intro @tl_0 @AV) (And.intro @IQ @gZ))) (And.intro (And.intro (And.intro @lq_v @qV) (And.intro @F1 @X1)) (And.intro @w6 @yX))))
end Go.Tm
namespace Go.Tm
section
variable {P:Program} {N:Nat} {ops:Array Oper} {Q:Exit→Act→World→Prop} {K:St→Prop} {rl:List RI} {q:Nat} {ps:List (List Nat)} {pl:List (Option Nat)}
def US(R:List (List Nat)→St→Prop) (fp:List (List Nat)) (p:List Nat) (k:Nat) (dst:Option Tmp) (i:I) (s:St):Prop:=
 Yu fp [k] p=true∧match Pj s k i with
  |some (d,e)=>R (fp++[[k]]) (({ s with m:=s.m.set k e }:St).put dst d)
  |none=>False
def sx(P:Program) (k:FuncId) (ds:List D) (ids:List Nat) (fp:List (List Nat)) (p:List Nat) (x:Nat) (f:D→Ent→Prop) (s:St):Prop:=
 (ids.elem x&&Yu fp ids p)=true∧∃d e,((∀id∈ids,id<s.m.length)∧∀m,(∀id∈ids,m[id]?=s.m[id]?)→CallT P k ds m fun d' m'=>d'=d∧m'=m.set x e)∧f d e
@[congr] theorem VU{P:Program} {k:FuncId} {ds ds':List D} {ids ids':List Nat} {fp fp':List (List Nat)} {p p':List Nat} {x:Nat} {f:D→Ent→Prop} {s:St} (h1:ds=ds') (h2:ids=ids') (h3:fp=fp') (h4:p=p'):sx P k ds ids fp p x f s=sx P k ds' ids' fp' p' x f s:=by rw[h1,h2,h3,h4]
def A8(P:Program) (R:List (List Nat)→St→Prop) (fp:List (List Nat)) (p:List Nat) (x:Nat) (k:FuncId) (dst:Option Tmp) (args:List Operand) (s:St):Prop:=
 sx P k (args.map s.ev) (eb s args) fp p x (fun d e=>R (fp++[eb s args]) (({ s with m:=s.m.set x e }:St).put dst d)) s
def Jf(P:Program):List (Option Nat)→List (List Nat)→Nat→List RI→(St→Prop)→List (List Nat)→St→Prop
 |_,_,0,l,K,_,s=>Wf P l K s
 |_,_,_+1,[],_,_,_=>False
 |some k::pl,ps,q+1,.op dst none i::l,K,fp,s=>US (Jf P pl ps.tail q l K) fp (ps.headD []) k dst i s
 |none::pl,ps,q+1,.op dst none i::l,K,fp,s=>PJ (Jf P pl ps.tail q l K) fp (ps.headD []) dst i s
 |none::pl,ps,q+1,.op dst (some (t,b)) i::l,K,fp,s=>
  gD (s.t.getD t .dead) b (PJ (Jf P pl ps.tail q l K) fp (ps.headD []) dst i) ⟨s.t.set t (.v (.bool b)),s.m⟩ (MY (Jf P pl ps.tail q l K) fp (ps.headD []) dst i) ⟨s.t.set t (.v (.bool (!b))),s.m⟩ s
 |none::pl,ps,q+1,.call dst none (.func k) args::l,K,fp,s=>ZN P (Jf P pl ps.tail q l K) fp (ps.headD []) k dst args s
 |some x::pl,ps,q+1,.call dst none (.func k) args::l,K,fp,s=>A8 P (Jf P pl ps.tail q l K) fp (ps.headD []) x k dst args s
 |_,_,_+1,_::_,_,_,_=>False
theorem Ns:∀{q:Nat}{l:List RI}{pl:List (Option Nat)}{ps:List (List Nat)}{fp:List (List Nat)}{s:St},Jf P pl ps q l K fp s→Ik P pl ps fp q l K s
 |0,l,pl,ps,fp,s,h=>by simp only[Jf]at h;simp only[Ik];exact Un h
 |q+1,[],pl,ps,fp,s,h=>by simp[Jf]at h
 |q+1,.op dst none i::l,some k::pl,ps,fp,s,h=>by
  simp only[Jf,US]at h;obtain⟨h1,h2⟩:=h;split at h2
  ·rename_i d e hf;simp only[Ik];exact⟨h1,trivial,d,e,hf,Ns h2⟩
  ·exact h2.elim
 |q+1,.op dst none i::l,none::pl,ps,fp,s,h=>by
  simp only[Jf,PJ]at h;obtain⟨h1,h0,h2⟩:=h;simp only[Ik,gate];obtain⟨d,m',h3,h4⟩:=(fj _ _).1 h2;exact⟨h1,d,m',h0,h3,Ns h4⟩
 |q+1,.op dst (some (t,b)) i::l,none::pl,ps,fp,⟨st,sm⟩,h=>by
  simp only[Jf]at h;have h:=nA rfl h;have hrid:∀s,wj s (.op dst (some (t,b)) i)=wj s (.op dst none i):=fun _=>rfl;simp only[Ik];show Yu fp (wj _ (.op dst (some (t,b)) i)) (ps.headD [])=true∧_;rw[hrid];split at h
  ·exact h.elim
  ·rename_i hg;simp only[gate]at hg;split at hg<;>simp at hg
  ·rename_i c b' hg;refine⟨?_,?_⟩
   ·by_cases hc:c=b'
    ·exact(h.1 hc).1
    ·exact(h.2 hc).1
   rw[hg];by_cases hc:c=b'
   ·obtain⟨h1,h0,h2⟩:=h.1 hc;obtain⟨d,m',h3,h4⟩:=(fj _ _).1 h2;exact⟨fun _=>⟨d,m',h0,h3,Ns h4⟩,fun hn=>(hn hc).elim⟩
   ·obtain⟨h1,h2⟩:=h.2 hc;exact⟨fun hn=>(hc hn).elim,fun _=>Ns h2⟩
 |q+1,.call dst none (.func k) args::l,none::pl,ps,fp,s,h=>by
  simp only[Jf,ZN,Er]at h;obtain⟨h0,d,h1,h2⟩:=h;simp only[Ik,gate];exact⟨h0,d,by simpa only[sab,Naa] using h1,Ns h2⟩
 |q+1,.op dst g i::l,[],ps,fp,s,h=>by simp[Jf]at h
 |q+1,.op dst (some g) i::l,some k::pl,ps,fp,s,h=>by simp[Jf]at h
 |q+1,.call dst g f args::l,[],ps,fp,s,h=>by simp[Jf]at h
 |q+1,.call dst none (.func k) args::l,some x::pl,ps,fp,s,h=>by
  simp only[Jf,A8,sx]at h;obtain⟨h0,d,e,h1,h2⟩:=h;simp only[paa,List.elem_eq_mem,decide_eq_true_eq]at h0;obtain⟨h0,h0'⟩:=h0;simp only[Ik];exact⟨trivial,h0,h0',d,e,by simpa only[sab,Naa] using h1,Ns h2⟩
 |q+1,.call dst (some g) f args::l,some x::pl,ps,fp,s,h=>by simp[Jf]at h
 |q+1,.call dst none (.tmp _) args::l,some x::pl,ps,fp,s,h=>by simp[Jf]at h
 |q+1,.call dst none (.const _) args::l,some x::pl,ps,fp,s,h=>by simp[Jf]at h
 |q+1,.call dst none (.global _) args::l,some x::pl,ps,fp,s,h=>by simp[Jf]at h
 |q+1,.call dst none (.meth _ _) args::l,some x::pl,ps,fp,s,h=>by simp[Jf]at h
 |q+1,.call dst (some g) f args::l,none::pl,ps,fp,s,h=>by simp[Jf]at h
 |q+1,.call dst none (.tmp _) args::l,none::pl,ps,fp,s,h=>by simp[Jf]at h
 |q+1,.call dst none (.const _) args::l,none::pl,ps,fp,s,h=>by simp[Jf]at h
 |q+1,.call dst none (.global _) args::l,none::pl,ps,fp,s,h=>by simp[Jf]at h
 |q+1,.call dst none (.meth _ _) args::l,none::pl,ps,fp,s,h=>by simp[Jf]at h
theorem T.ao(hm:P.follows .mixedOrders=true) {cuts:List Nat}{bs:List (List Nat)}{l:List RI}{K:Exit→St→Prop}{s:St}(ps:List (List Nat)) (pl:List (Option Nat)) (hok:rp bs l q ps pl=true) (hpl:iu s.m pl=true) (h:Jf P pl ps q l (K .normal) [] s):T P N (.any cuts q bs l) K s:=
 T.X0 hm ps pl hok hpl (Ns h)
def xu:List (Option Nat)→List RI→Bool
 |none::pl,_::l=>xu pl l
 |some _::pl,.call ..::l=>xu pl l
 |[],_=>true
 |_,_=>false
theorem HA:∀{pl:List (Option Nat)}{l:List RI},xu pl l=true→∀i p,pO pl i=some p→∃a b c d,l[i]?=some (.call a b c d)
 |[],l,_,i,p,h=>by simp[pO]at h
 |none::pl,[],h,_,_,_=>by simp[xu]at h
 |some _::pl,[],h,_,_,_=>by simp[xu]at h
 |none::pl,y::l,h,0,p,h2=>by simp[pO]at h2
 |none::pl,y::l,h,i+1,p,h2=>by
  simp only[xu]at h;simpa using HA h i p (by simpa [pO] using h2)
 |some x::pl,.call a b c d::l,h,0,p,h2=>⟨a,b,c,d,rfl⟩
 |some x::pl,.call a b c d::l,h,i+1,p,h2=>by
  simp only[xu]at h;simpa using HA h i p (by simpa [pO] using h2)
 |some x::pl,.op a b c::l,h,_,_,_=>by simp[xu]at h
theorem T.dp(hm:P.follows .mixedOrders=true) {l:List RI}{K:Exit→St→Prop}{s:St}(ps:List (List Nat)) (pl:List (Option Nat)) (hps:ps=Ls q) (hcl:xu pl l=true) (hpl:iu s.m pl=true) (h:Jf P pl ps q l (K .normal) [] s):T P N (.draw q l) K s:=by
 subst hps;exact T.GZ hm (Ls q) pl (HA hcl) IE hpl (Ns h)
end
end Go.Tm
namespace Go.Tm
section
variable {P:Program} {pl:List (Option Nat)} {ps:List (List Nat)} {q k t:Nat} {b:Bool} {dst:Option Tmp} {i:I} {l:List RI} {K:St→Prop} {fp:List (List Nat)} {s:St} {st:List D} {m:List Ent} {args:List Operand} {R:List (List Nat)→St→Prop} {p:List Nat} {z:D} {S:Nat} {x:Operand}
theorem TT:Jf P pl ps 0 l K fp s=Wf P l K s:=by simp only[Jf]
theorem LV:Jf P (some k::pl) ps (q+1) (.op dst none i::l) K fp s=US (Jf P pl ps.tail q l K) fp (ps.headD []) k dst i s:=by simp only[Jf]
theorem Y0:Jf P (none::pl) ps (q+1) (.op dst none i::l) K fp s=PJ (Jf P pl ps.tail q l K) fp (ps.headD []) dst i s:=by simp only[Jf]
theorem vY:Jf P (none::pl) ps (q+1) (.op dst (some (t,b)) i::l) K fp ⟨st,m⟩=gD (st.getD t .dead) b (PJ (Jf P pl ps.tail q l K) fp (ps.headD []) dst i) ⟨st.set t (.v (.bool b)),m⟩ (MY (Jf P pl ps.tail q l K) fp (ps.headD []) dst i) ⟨st.set t (.v (.bool (!b))),m⟩ ⟨st,m⟩:=by simp only[Jf]
theorem kU:Jf P (none::pl) ps (q+1) (.call dst none (.func k) args::l) K fp s=ZN P (Jf P pl ps.tail q l K) fp (ps.headD []) k dst args s:=by simp only[Jf]
theorem DN{x:Nat}:Jf P (some x::pl) ps (q+1) (.call dst none (.func k) args::l) K fp s=A8 P (Jf P pl ps.tail q l K) fp (ps.headD []) x k dst args s:=by simp only[Jf]
theorem YZ{R:List (List Nat)→St→Prop}{p:List Nat}{x:Nat}:A8 P R fp p x k dst args s=sx P k (args.map s.ev) (eb s args) fp p x (fun d e=>R (fp++[eb s args]) (({ s with m:=s.m.set x e }:St).put dst d)) s:=kaa rfl rfl
theorem HX:US R fp p k dst i s=(Yu fp [k] p=true∧match Pj s k i with|some (d,e)=>R (fp++[[k]]) (({ s with m:=s.m.set k e }:St).put dst d)|none=>False):=kaa rfl rfl
theorem LO:Pj s k (.alloc S z)=(match s.m[k]? with|some (.live S' Ga [])=>if S'=S then some (.ref k (Ga+1) 0 0,.live S (Ga+1) [z])else none|_=>none):=kaa rfl rfl
theorem mV:Pj s k (.box S x)=(match s.m[k]? with|some (.live S' Ga [])=>if S'=S∧(s.ev x).ok=true∧gp S (s.ev x).cells=true then some (.ref k (Ga+1) 0 0,.live S (Ga+1) [s.ev x])else none|_=>none):=by simp only[Rm];rfl
theorem jW{n:Nat}{qs:List (Nat×Operand)}:Pj s k (.bslice S n z qs)=(match s.m[k]? with|some (.live S' Ga [])=>if S'=S then(wb s S qs (maa n z)).map fun l=>(.own k (Ga+1),.live S (Ga+1) l)else none|_=>none):=kaa rfl rfl
end
def zo:=(And.intro (And.intro (And.intro (And.intro @TT @LV) (And.intro @Y0 @vY)) (And.intro (And.intro @kU @DN) (And.intro @YZ @HX))) (And.intro (And.intro @LO @mV) @jW))
end Go.Tm
namespace Go.Tm
theorem iI{G G':Gh}{w w':World}(hle:SubF G w G' w') {d d':D}(hd:∀u,VRel G w d u→VRel G' w' d' u) {post:List D}(hpost:fa post=true) :
 ∀{pre:List D} {us:List Value},fa pre=true→VsRel G w (pre++d::post) us→VsRel G' w' (pre++d'::post) us
 |[],us,_,h=>by
  simp only[sab,VsRel]at h⊢;obtain⟨u,r,rfl,h1,h2⟩:=h;exact⟨u,r,rfl,hd u h1,VsRel.free hle hpost h2⟩
 |p::pre,us,hp,h=>by
  simp only[fa,paa]at hp;simp only[Yaa,VsRel]at h⊢;obtain⟨u,r,rfl,h1,h2⟩:=h;exact⟨u,r,rfl,VRel.free hle hp.1 h1,iI hle hd hpost hp.2 h2⟩
section
variable {P:Program}
end
end Go.Tm
namespace Go.Tm
variable {P:Program}
def NU(P:Program) (f:FuncId) (ds:List D) (m:List Ent) (R:D→List Ent→Prop):Prop:=
 Enters P f∧∀(G:Gh) (w:World) (vs:List Value),VsRel G w ds vs→Inv G w m→
  Calls P f vs.toArray w fun e w'=>∃v d m' G',e=.returned v∧R d m'∧VRel G' w' d v∧Inv G' w' m'∧StepN 0 G w m G' w' m'
theorem MN{f:FuncId}{F:Fun}{ds:List D}{m:List Ent}{R:D→List Ent→Prop}(hF:vq P f=some F) (hname:((P.funcs[f]?).map fun fn=>fn.name == "runtime.NumGoroutine")=some false)
 (h:T P 0 F.code (Pu F.results R) ⟨ds++maa (F.ntmps-ds.length) .dead,m⟩):NU P f ds m R:=by
 unfold vq at hF;split at hF
 ·rename_i fn hfn;split at hF
  ·rename_i b r hb hres;simp only[laa]at hF;obtain⟨c,hc,rfl⟩:=hF;refine⟨⟨fn,hfn,by simpa [hfn] using hname,by rw[hb];rfl⟩,fun G w vs hv hi=>?_⟩;refine calls_of_wp hfn hb ?_;have hlen:=hv.length;have hr:Rel G w { tmps:=vs.toArray++Array.replicate (fn.ntmps-vs.toArray.size) undef,defers:=[] } ⟨ds++maa (fn.ntmps-ds.length) .dead,m⟩:=by
    refine⟨?_,hi,rfl⟩;simp only[Array.toList_append,Array.toList_replicate,List.size_toArray,hlen];exact hv.append (zC _ _ _)
   refine Code.wp_mono ?_ (h b hc G w _ (Bab _) hr);rintro e a' w' ⟨s',G',hK,hr',hs0⟩;have fin:(∃ds,Xa s' r=some ds∧R (Gk ds) s'.m)→a'.defers=[]∧∃v,(results fn a'.tmps).run P w'=.ok v w'∧∃v_1 d m' G',Ending.returned v=.returned v_1∧R d m'∧VRel G' w' d v_1∧Inv G' w' m'∧StepN 0 G w m G' w' m':=by
    rintro⟨es,hes,hR⟩;obtain⟨v,hrun,hv'⟩:=ux (F:=⟨fn.ntmps,r,c⟩) hres hr' hes;exact⟨hr'.defers,v,hrun,v,_,_,G',rfl,hR,hv',hr'.inv,hs0⟩
   cases e with
   |normal=>exact fin hK
   |ret=>exact fin hK
   |_=>exact hK.elim
  ·cases hF
 ·cases hF
theorem gW{k id S Ga:Nat}{l:List D}{m:List Ent}{pre post:List D}{o:D}
 (hid:m[id]?=some (.live S Ga l)) (hpre:fa pre=true) (hpost:fa post=true) (hl:fa l=true)
 (h:NU P k (pre++.own 0 0::post) [.live S 0 l] fun d m'=>Sbs [] m' [d] [o]) :
 CallT P k (pre++.own id Ga::post) m fun d m'=>d=o∧m'=m.set id .gone:=by
 refine⟨h.1,fun G w vs hv hi=>?_⟩;have hlen:id<m.length:=(Caa.1 hid).1;obtain⟨eV,eS,eN,eC,eB⟩:=hi.ent id _ hid;have hc0:SubF G w ⟨G.F,1,fun _=>G.B id,fun _=>0,fun _=>G.S id,fun _=>G.N id,fun _=>G.C id⟩ w:=⟨fun _ h=>h,fun _ _=>rfl⟩;have hv':=iI hc0 (d:=.own id Ga) (d':=.own 0 0) (fun u hu=>by
  simp only[VRel]at hu⊢;obtain⟨a,n,c,rfl,h1,h2,h3⟩:=hu;exact⟨a,n,c,rfl,by simp,yaa _,fun _=>h3 eV⟩) hpost hpre hv
 have hic:Inv ⟨G.F,1,fun _=>G.B id,fun _=>0,fun _=>G.S id,fun _=>G.N id,fun _=>G.C id⟩ w [.live S 0 l]:=by
  refine⟨rfl,hi.F,?_,?_,hi.gl.bare fun _ h=>h⟩
  ·intro i e he
   cases i with
   |zero=>
    simp at he;subst he;refine⟨rfl,eS,eN,eC,?_⟩;rcases eB with h|⟨b,cs,T,h1,h2,h3,h4,h5⟩
    ·exact .inl h
    ·exact .inr ⟨b,cs,T,h1,h2,h3,h4,Ha.free hc0 rfl hl h5⟩
   |succ i=>simp at he
  ·intro i j e e' hi' hj' _ _ b _ _
   cases i with
   |zero=>cases j with
    |zero=>rfl
    |succ j=>simp at hj'
   |succ i=>simp at hi'
 have own0:∀b,me ⟨G.F,1,fun _=>G.B id,fun _=>0,fun _=>G.S id,fun _=>G.N id,fun _=>G.C id⟩ [.live S 0 l] b→G.B id=some b:=by
  rintro b ⟨i,e,he,-,hB⟩;exact hB
 refine(h.2 _ w vs hv' hic).mono ?_;rintro e w' ⟨v,d,m',G',rfl,hR,hvd,hi',hs'⟩;have live1:(Ent.live S Ga l).isLive=true:=rfl;have hT:=(hR.rel hi' (fun i j v h=>by simp at h)).1 [v] (by simp only[VsRel];exact⟨v,[],rfl,hvd,rfl⟩);simp only[VsRel]at hT;obtain⟨u,us,he,h1,_⟩:=hT;injection he with he _;subst he;have hfree:=jz hR;simp only[fa,Gaa]at hfree;have hle:Le G w ⟨fun b=>G'.F b∨me G' m' b,G.n,G.B,G.V,G.S,G.N,G.C⟩ w':=by
  refine⟨fun b hb=>.inl (hs'.F b hb),fun b hb=>hs'.heap b hb,yaa _,fun i _=>.inl (by simp)⟩
 have olt:∀i x,m[i]?=some x→x.isLive=true→∀b,G.B i=some b→b<w.heap.size∧¬G.F b:=fun i x hx hl b hb=>(hi.ent i x hx).lt hl hb;have notO:∀i x,m[i]?=some x→x.isLive=true→i≠id→∀b,G.B i=some b→G.B id≠some b:=fun i x hx hlx hne b hb hB=>hne (hi.apart i id x _ hx hid hlx live1 b hb hB);have hget:∀i x,(m.set id .gone)[i]?=some x→(m[i]?=some x∧i≠id)∨(i=id∧x=.gone):=by
  intro i x hx;by_cases h:i=id
  ·subst h;rw[List.getElem?_set_self hlen]at hx;exact .inr ⟨rfl,by injection hx with hx;exact hx.symm⟩
  ·rw[List.getElem?_set_ne (by omega)]at hx;exact .inl ⟨hx,h⟩
 refine⟨v,o,_,⟨fun b=>G'.F b∨me G' m' b,G.n,G.B,G.V,G.S,G.N,G.C⟩,rfl,⟨rfl,rfl⟩,?_,⟨by simp[hi.n],?_,?_,?_,hi'.gl.bare fun _ h=>.inl h⟩,⟨hle,hs'.os,hs'.tape,hs'.output,hs'.size,?_,?_,?_⟩⟩
 ·refine VRel.free (G:=vb G' m' []) ⟨?_,fun _ _=>rfl⟩ hfree h1;rintro b (hb|⟨hb,_⟩)
  ·exact .inl hb
  ·exact .inr hb
 ·rintro b (hb|hb)
  ·exact hi'.F b hb
  ·exact(me.lt hi' hb).1
 ·intro i x hx;rcases hget i x hx with⟨h1,h2⟩|⟨rfl,rfl⟩
  ·by_cases hlx:x.isLive=true
   ·refine(hi.ent i x h1).mono hle (by simp) (fun b hb=>?_) (fun b hb _ hF=>?_)
    ·exact hs'.keep b (olt i x h1 hlx b hb).1 fun ho=>notO i x h1 hlx h2 b hb (own0 b ho)
    ·rcases hF with hF|hF
     ·rcases hs'.newF b (olt i x h1 hlx b hb).1 hF with h|h
      ·exact h
      ·exact(notO i x h1 hlx h2 b hb (own0 b h)).elim
     ·exact(notO i x h1 hlx h2 b hb (own0 b (hs'.newB b (olt i x h1 hlx b hb).1 hF))).elim
   ·cases x with
    |gone=>trivial
    |_=>simp[Ent.isLive]at hlx
  ·trivial
 ·intro i j x y hx hy lx ly b hb hb';rcases hget i x hx with⟨h1,h2⟩|⟨rfl,rfl⟩
  ·rcases hget j y hy with⟨h3,h4⟩|⟨rfl,rfl⟩
   ·exact hi.apart i j x y h1 h3 lx ly b hb hb'
   ·cases ly
  ·cases lx
 ·intro b hb hno;exact hs'.keep b hb fun ho=>hno ⟨id,_,hid,live1,own0 b ho⟩
 ·intro b hb hF;rcases hF with hF|hF
  ·rcases hs'.newF b hb hF with h|h
   ·exact .inl h
   ·exact .inr ⟨id,_,hid,live1,own0 b h⟩
  ·exact .inr ⟨id,_,hid,live1,own0 b (hs'.newB b hb hF)⟩
 ·rintro b hb ⟨i,x,hx,lx,hB⟩;rcases hget i x hx with⟨h1,h2⟩|⟨rfl,rfl⟩
  ·exact⟨i,x,h1,lx,hB⟩
  ·cases lx
def uA(P:Program) (k:Nat) (pre post:List D) (S:Nat) (l:List D) (o:D):Prop:=∀m id Ga,m[id]?=some (.live S Ga l)→CallT P k (pre++.own id Ga::post) m fun d m'=>d=o∧m'=m.set id .gone
def xO(P:Program) (k:Nat) (pre post:List D) (S:Nat) (l l':List D) (o:D):Prop:=∀m id Ga,m[id]?=some (.live S Ga l)→CallT P k (pre++.own id Ga::post) m fun d m'=>d=o∧m'=m.set id (.live S Ga l')
theorem uA.at{k:Nat}{F:Fun}{pre post:List D}{S:Nat}{l:List D}{o:D}(n:Nat) (hF:vq P k=some F) (hname:((P.funcs[k]?).map fun fn=>fn.name == "runtime.NumGoroutine")=some false)
 (hpre:fa pre=true) (hpost:fa post=true) (hl:fa l=true) (hn:F.ntmps=(pre++.own 0 0::post).length+n)
 (h:T P 0 F.code (YA F.results o) ⟨(pre++.own 0 0::post)++Tm.ds n [],[.live S 0 l]⟩):uA P k pre post S l o:=by
 intro m id Ga hm;refine gW hm hpre hpost hl (MN hF hname ?_);rw[hn,Kac,←Pw];refine T.JM (h.mono ?_);have key:∀(e:Exit) (s:St),(∀s',Pu F.results (fun d m'=>Sbs [] m' [d] [o]) e s' = ∃ds,Xa s' F.results=some ds∧Sbs [] s'.m [Gk ds] [o])→(∃S,Tells 0 s S∧∃ds,Xa S F.results=some ds∧Sbs [] S.m [Gk ds] [o])→xE 0 (Pu F.results fun d m'=>Sbs [] m' [d] [o]) e s:=by
  intro e s he ⟨S,h1,h2⟩ G w a hN hr;obtain⟨G',h3,h4⟩:=Um h1 hN hr;exact⟨S,G',by rw[he];exact h2,h3,h4⟩
 intro e s hs
 cases e with
 |normal=>exact key _ s (fun _=>rfl) hs
 |ret=>exact key _ s (fun _=>rfl) hs
 |_=>exact(hs:False).elim
theorem zI{k id S Ga:Nat}{pre post l ds:List D}{o:D}{m:List Ent}{f:D→List Ent→Prop}(h:uA P k pre post S l o) (hds:ds=pre++.own id Ga::post) (hm:m[id]?=some (.live S Ga l)) (hf:f o (m.set id .gone)):qe P k ds m f:=by
 subst hds;exact Ub (h m id Ga hm) hf
theorem ZR{k id S Ga:Nat}{pre post l l' ds:List D}{o:D}{m:List Ent}{f:D→List Ent→Prop}(h:xO P k pre post S l l' o) (hds:ds=pre++.own id Ga::post) (hm:m[id]?=some (.live S Ga l)) (hf:f o (m.set id (.live S Ga l'))):qe P k ds m f:=by
 subst hds;exact Ub (h m id Ga hm) hf
theorem VB{k:Nat}{vs:List Value}{v:Value}(hE:Enters P k) (h:∀w,Calls P k vs.toArray w fun e w'=>e=.returned v∧w'=w):Den P k (vs.map .v) (.v v):=by
 refine fun m=>⟨hE,fun G w us hv hi=>?_⟩;have:∀(vs us:List Value),VsRel G w (vs.map .v) us→us=vs:=by
  intro vs
  induction vs with
  |nil=>intro us h;simpa [VsRel] using h
  |cons x l ih=>
   intro us h;simp only[eab,VsRel,VRel]at h;obtain⟨u,r,rfl,rfl,h2⟩:=h;rw[ih r h2]
 obtain rfl:=this vs us hv;refine(h w).mono ?_;rintro e w' ⟨rfl,rfl⟩;exact⟨_,_,_,G,rfl,⟨rfl,rfl⟩,by simp[VRel],hi,Step.refl _ _ _⟩
end Go.Tm
namespace Go.Tm
open Go.Sort
variable {P:Program}
def eI(n:Int):D:=.v (.int .i64 n)
theorem dA{G:Gh}{w:World}{b:Nat}:∀{zs:List Int}{off:Nat},Ha G w b 1 (zs.map eI) off→∀j (h:j<zs.length),w.cell? ⟨b,off+j,none⟩=some (.int .i64 zs[j])
 |[],_,_,j,h=>absurd h (Lad j)
 |z::zs,off,hr,j,h=>by
  simp only[eab,Ha]at hr;obtain⟨⟨u,h1,h2,h3⟩,h4⟩:=hr;simp only[eI,VRel]at h1;subst h1
  cases j with
  |zero=>exact(h3 0 (.int .i64 z) rfl).2
  |succ j=>
   have:=dA h4 j (by simpa using h);rw[show off+(j+1)=off+1+j by omega];simpa using this
theorem fG{G:Gh}{w:World}{b:Nat}:∀{zs:List Int}{off:Nat},(∀j (h:j<zs.length),w.cell? ⟨b,off+j,none⟩=some (.int .i64 zs[j]))→Ha G w b 1 (zs.map eI) off
 |[],_,_=>by simp[Ha]
 |z::zs,off,hr=>by
  simp only[eab,Ha];refine⟨⟨.int .i64 z,by simp[eI,VRel],rfl,?_⟩,fG fun j h=>?_⟩
  ·intro j c hc
   cases j with
   |zero=>
    have:c=.int .i64 z:=by simpa [Value.cells] using hc.symm
    subst this;exact⟨rfl,hr 0 (Pae _)⟩
   |succ j=>simp[Value.cells]at hc
  ·have:=hr (j+1) (by simpa using h);rw[show off+1+j=off+(j+1) by omega];simpa using this
theorem holds_of{w:World}{b off:Nat}{cs:Array Value}{T:TypeId}{zs:List Int}(hb:w.heap[b]?=some (.cells cs T (0,0))) (h:∀j (h:j<zs.length),w.cell? ⟨b,off+j,none⟩=some (.int .i64 zs[j])):Holds (Value.int .i64) w b off zs.toArray:=by
 intro j hj;have hj':j<zs.length:=by simpa using hj
 refine⟨?_,?_⟩
 ·rw[h j hj'];simp[getElem!_pos,hj']
 ·simp[World.frozen?,hb]
theorem yI{w:World}{b off:Nat}{cs:Array Value}{T:TypeId}{ys:List Int}{n:Nat}{os:Array Obj}(hb:w.heap[b]?=some (.cells cs T (0,0))) (hlen:off+ys.length≤cs.size) {w':World}(hw:w'=grow (putRow (Value.int .i64) (Sort.ahead w n) b off ys.toArray) os) :
 w'.os=w.os∧w'.tape=w.tape∧w'.output=w.output∧w.heap.size≤w'.heap.size∧(∀k,k<w.heap.size→k≠b→w'.heap[k]?=w.heap[k]?)∧
  w'.heap[b]?=some (.cells (putCells (Value.int .i64) off ys.toArray cs) T (0,0))∧∀j (h:j<ys.length),w'.cell? ⟨b,off+j,none⟩=some (.int .i64 ys[j]):=by
 subst hw;have hbs:b<w.heap.size:=by
  rcases Taa b w.heap.size with h|h
  ·exact h
  ·rw[ead h]at hb;cases hb
 have hheap:(grow (putRow (Value.int .i64) (Sort.ahead w n) b off ys.toArray) os).heap=w.heap.modify b (onCells (putCells (Value.int .i64) off ys.toArray))++os:=rfl;have hbb:(grow (putRow (Value.int .i64) (Sort.ahead w n) b off ys.toArray) os).heap[b]?=some (.cells (putCells (Value.int .i64) off ys.toArray cs) T (0,0)):=by
  rw[hheap,yac (by simpa using hbs),iad,if_pos rfl,hb];rfl
 refine⟨rfl,rfl,rfl,?_,?_,hbb,?_⟩
 ·rw[hheap];simp
 ·intro k hk hne;rw[hheap,yac (by simpa using hk),iad,if_neg (fun h=>hne h.symm)]
 ·intro j hj;simp only[World.cell?,hbb,Option.isSome_none,naa,if_false];simp only[putCells,Array.getElem?_mapIdx];rw[Vaa (show off+j<cs.size by omega),Vab,if_pos ⟨by omega,by simpa using hj⟩];simp[getElem!_pos,hj]
theorem eG{k:FuncId}(hE:Enters P k) {id Ga:Nat}{m:List Ent}{zs ys:List Int}(hm:m[id]?=some (.live 1 Ga (zs.map eI))) (hlen:ys.length=zs.length)
 (h1:∀w b off cap,Holds (Value.int .i64) w b off zs.toArray→b<w.heap.size→Calls P k #[.slice (some ⟨b,off,none⟩) zs.length cap] w fun e w'=>e=.returned (.tuple #[])∧∃n os,w'=grow (putRow (Value.int .i64) (Sort.ahead w n) b off ys.toArray) os)
 (h0:∀w cap,Calls P k #[.slice none 0 cap] w fun e w'=>e=.returned (.tuple #[])∧w'=w) :
 CallT P k [.own id Ga] m fun d m'=>d=.tup []∧m'=m.set id (.live 1 Ga (ys.map eI)):=by
 refine⟨hE,fun G w vs hv hi=>?_⟩;obtain⟨eV,eS,eN,eC,eB⟩:=hi.ent id _ hm;simp only[VsRel,VRel]at hv;obtain⟨u,r,rfl,⟨a,n,c,rfl,g1,g2,g3⟩,rfl⟩:=hv;obtain⟨rfl,rfl,rfl⟩:=g3 eV;simp only[gab]at eN eC;rcases eB with⟨hB,hC⟩|⟨b,cs,T,hB,hF,hb,hc,hr⟩
 ·have h00:=congrArg Wad hC;dsimp only at h00;have hz:zs=[]:=Eaa (by omega);have hy:ys=[]:=Eaa (by rw[hlen,hz];rfl);subst hz hy;rw[hB,eN];refine(h0 w _).mono ?_;rintro e w' ⟨rfl,rfl⟩;refine⟨_,_,_,G,rfl,⟨rfl,rfl⟩,by simp[VRel,VsRel],?_,?_⟩
  ·have:m.set id (.live 1 Ga (([]:List Int).map eI))=m:=by
    apply Tac;intro i;rw[fac];split
    ·rename_i h;subst h;split
     ·exact hm.symm
     ·rename_i h;exact absurd (Caa.1 hm).1 h
    ·rfl
   rw[this];exact hi
  ·have:m.set id (.live 1 Ga (([]:List Int).map eI))=m:=by
    apply Tac;intro i;rw[fac];split
    ·rename_i h;subst h;split
     ·exact hm.symm
     ·rename_i h;exact absurd (Caa.1 hm).1 h
    ·rfl
   rw[this];exact Step.refl _ _ _
 ·rw[hB,eN];have hbs:b<w.heap.size:=by
   rcases Taa b w.heap.size with h|h
   ·exact h
   ·rw[ead h]at hb;cases hb
  refine(h1 w b _ _ (holds_of hb (dA hr)) hbs).mono ?_;rintro e w' ⟨rfl,n,os,hw⟩;obtain⟨p1,p2,p3,p4,p5,p6,p7⟩:=yI hb (by omega) hw;have hg:=Ke (w':=w') hi hm rfl (e':=.live 1 Ga (ys.map eI)) rfl (G.B id) Ga (G.N id) (G.C id) (.inr ⟨eV.symm,rfl,rfl,rfl⟩) p1 p2 p3 p4
   (fun k hk hne=>p5 k hk (fun h=>hne (by rw[hB,h]))) (fun k hk=>.inl hk) (by
    refine⟨by simp[Gh.Hd],by simp[Gh.Hd,eS],by simp[Gh.Hd,eN,hlen],by simp[Gh.Hd];omega,.inr ⟨b,_,T,by simp[Gh.Hd,hB],hF,p6,?_,fG (by simpa [Gh.Hd] using p7)⟩⟩;simpa [Gh.Hd,putCells] using hc)
  exact⟨_,_,_,_,rfl,⟨rfl,rfl⟩,by simp[VRel,VsRel],hg.1,hg.2⟩
theorem oH{k:FuncId}(hE:Enters P k) {id Ga:Nat}{m:List Ent}{zs ys:List Int}(hm:m[id]?=some (.live 1 Ga (zs.map eI))) (hlen:ys.length≤zs.length)
 (h1:∀w b off cap,Holds (Value.int .i64) w b off zs.toArray→zs.length≤cap→Calls P k #[.slice (some ⟨b,off,none⟩) zs.length cap] w fun e w'=>e=.returned (.slice (some ⟨b,off,none⟩) ys.length cap)∧∃n xs,xs.length+ys.length=zs.length∧w'=grow (putRow (Value.int .i64) (Sort.ahead w n) b off (ys++xs).toArray) #[])
 (h0:∀w cap,Calls P k #[.slice none 0 cap] w fun e w'=>e=.returned (.slice none 0 cap)∧w'=w) :
 CallT P k [.own id Ga] m fun d m'=>d=.own id (Ga+1)∧m'=m.set id (.live 1 (Ga+1) (ys.map eI)):=by
 refine⟨hE,fun G w vs hv hi=>?_⟩;obtain⟨eV,eS,eN,eC,eB⟩:=hi.ent id _ hm;simp only[VsRel,VRel]at hv;obtain⟨u,r,rfl,⟨a,n,c,rfl,g1,g2,g3⟩,rfl⟩:=hv;obtain⟨rfl,rfl,rfl⟩:=g3 eV;simp only[gab]at eN eC;rcases eB with⟨hB,hC⟩|⟨b,cs,T,hB,hF,hb,hc,hr⟩
 ·have h00:=congrArg Wad hC;dsimp only at h00;have hz:zs=[]:=Eaa (by omega);have hy:ys=[]:=Eaa (by rw[hz]at hlen;simpa using hlen);subst hz hy;rw[hB,eN];refine(h0 w _).mono ?_;rintro e w' ⟨rfl,rfl⟩;have hg:=Ke (w':=w') hi hm rfl (e':=.live 1 (Ga+1) (([]:List Int).map eI)) rfl none (Ga+1) 0 (G.C id) (.inl (by omega)) rfl rfl rfl (yaa _)
   (fun k hk hne=>rfl) (fun k hk=>by cases hk) (by
    refine⟨by simp[Gh.Hd],by simp[Gh.Hd,eS],by simp[Gh.Hd],by simp[Gh.Hd],.inl ⟨by simp[Gh.Hd],by simp[Gh.Hd,hC]⟩⟩)
  refine⟨_,_,_,_,rfl,⟨rfl,rfl⟩,?_,hg.1,hg.2⟩;simp only[VRel];exact⟨_,_,_,rfl,g1,by simp[Gh.Hd],fun _=>by simp[Gh.Hd]⟩
 ·rw[hB,eN];refine(h1 w b _ _ (holds_of hb (dA hr)) eC).mono ?_;rintro e w' ⟨rfl,n,xs,hx,hw⟩;obtain⟨p1,p2,p3,p4,p5,p6,p7⟩:=yI hb (by simp;omega) hw;have hg:=Ke (w':=w') hi hm rfl (e':=.live 1 (Ga+1) (ys.map eI)) rfl (G.B id) (Ga+1) ys.length (G.C id) (.inl (by omega)) p1 p2 p3 p4
   (fun k hk hne=>p5 k hk (fun h=>hne (by rw[hB,h]))) (fun k hk=>.inl hk) (by
    refine⟨by simp[Gh.Hd],by simp[Gh.Hd,eS],by simp[Gh.Hd],by simp[Gh.Hd];omega,.inr ⟨b,_,T,by simp[Gh.Hd,hB],hF,p6,?_,fG fun j h=>?_⟩⟩
    ·simpa [Gh.Hd,putCells] using hc
    ·have:=p7 j (by simp;omega);simp only[Gh.Hd,if_pos];rw[this,List.getElem_append_left h])
  refine⟨_,_,_,_,rfl,⟨rfl,rfl⟩,?_,hg.1,hg.2⟩;simp only[VRel];exact⟨_,_,_,rfl,g1,by simp[Gh.Hd],fun _=>by simp[Gh.Hd,hB]⟩
theorem cO{k:FuncId}(hE:Enters P k) {zs ys:List Int}(hlen:ys.length=zs.length)
 (h1:∀w b off cap,Holds (Value.int .i64) w b off zs.toArray→b<w.heap.size→Calls P k #[.slice (some ⟨b,off,none⟩) zs.length cap] w fun e w'=>e=.returned (.tuple #[])∧∃n os,w'=grow (putRow (Value.int .i64) (Sort.ahead w n) b off ys.toArray) os)
 (h0:∀w cap,Calls P k #[.slice none 0 cap] w fun e w'=>e=.returned (.tuple #[])∧w'=w):xO P k [] [] 1 (zs.map eI) (ys.map eI) (.tup []):=
 fun m id Ga hm=>eG hE hm hlen h1 h0
end Go.Tm
namespace Go.Tm
variable {P:Program} {N:Nat}
end Go.Tm
namespace Go.Tm
end Go.Tm
namespace Go.Tm
def CW(E:List (Nat×List Nat)) (P:Program) (ops:Array Oper) (o:Oper) (op:Op):Option I:=
 match op with
 |.binOp b t x y _=>
  match E.lookup t with
  |some ks=>some (.ceq (decide (b=.neq)) ks x y)
  |none=>Jm P ops o op
 |_=>Jm P ops o op
def kS(E:List (Nat×List Nat)) (P:Program) (ops:Array Oper) (o:Oper):Option RI:=
 match guardOf ops o.guard with
 |none=>none
 |some g=>
  match iD P o.op with
  |some (f,args)=>some (.call o.dst g f args)
  |none=>(CW E P ops o o.op).map fun i=>.op o.dst g i
def EA(E:List (Nat×List Nat)) (P:Program) (ops:Array Oper):List Oper→Option (List RI)
 |[]=>some []
 |o::l=>
  match kS E P ops o,EA E P ops l with
  |some r,some rs=>some (r::rs)
  |_,_=>none
def zu(E:List (Nat×List Nat)) (P:Program):Code→Option C
 |.skip=>some .skip
 |.region _ ops false=>(EA E P ops ops.toList).map .TF
 |.region _ ops true=>
  match EA E P ops ops.toList with
  |some rl=>
   if qw (Ta ops) rl (qQ (Ta ops) rl.length)=true then some (.draw (qQ (Ta ops) rl.length) rl)
   else some (.any (xG (Ta ops) rl.length (qQ (Ta ops) rl.length)) (qQ (Ta ops) rl.length) (Ta ops) rl)
  |none=>none
 |.seq a b=>
  match zu E P a,zu E P b with
  |some x,some y=>some (.seq x y)
  |_,_=>none
 |.cond c a b=>
  match zu E P a,zu E P b with
  |some x,some y=>some (.cond c x y)
  |_,_=>none
 |.block id a=>(zu E P a).map (.block id)
 |.loop a=>(zu E P a).map .loop
 |.exit id=>some (.exit id)
 |.ret=>some .ret
 |.label _=>some .skip
 |.rangeFunc ..=>some .stuck
 |_=>none
def UX(E:List (Nat×List Nat)) (P:Program) (f:FuncId):Option Fun:=
 match P.funcs[f]? with
 |some fn=>
  match fn.body,ir P fn.results.toList with
  |some b,some r=>(zu E P b).map fun c=>⟨fn.ntmps,r,c⟩
  |_,_=>none
 |none=>none
theorem u8l{n:Nat}{h:n<2 ^ 8}:(⟨⟨⟨n,h⟩⟩⟩:UInt8)=UInt8.ofNat n:=by
 apply UInt8.toBitVec_inj.1;simp only[BitVec.ofFin_eq_ofNat];rfl
theorem arl{l:List UInt8}:(⟨l⟩:Array UInt8)=l.toArray:=rfl
structure Kf (P:Program) (n:Nat) where
 F:Fun
 ok:vq P n=some F
 nm:((P.funcs[n]?).map fun fn=>fn.name == "runtime.NumGoroutine")=some false
theorem Kf.o{P:Program}{n:Nat}(K:Kf P n):vq P n=some K.F∧((P.funcs[n]?).map fun fn=>fn.name == "runtime.NumGoroutine")=some false:=⟨K.ok,K.nm⟩
abbrev Kf.of(E:List (Nat×List Nat)) {P:Program}{n:Nat}{F:Fun}(_:UX E P n=some F:=by conv=>lhs;reduce;try simp only[Int.reduceOfNat,Int.reduceNegSucc,u8l,arl,UInt8.reduceOfNat]) (ok:vq P n=some F:=by kernel_rfl) (nm:((P.funcs[n]?).map fun fn=>fn.name == "runtime.NumGoroutine")=some false:=by kernel_rfl):Kf P n:=⟨F,ok,nm⟩
end Go.Tm
namespace Go.Tm
theorem ss:type_of% @T.FM:=@T.FM
theorem rg:type_of% @T.rg:=@T.rg
theorem sr:type_of% @T.sr:=@T.sr
theorem cd:type_of% @T.cd:=@T.cd
theorem bk:type_of% @T.bk:=@T.bk
theorem sk:type_of% @T.skip:=@T.skip
theorem xt:type_of% @T.exit:=@T.exit
theorem ay:type_of% @T.ay:=@T.ay
theorem dy:type_of% @T.dy:=@T.dy
theorem ao:type_of% @T.ao:=@T.ao
theorem tl:type_of% @T.vA:=@T.vA
theorem cq:type_of% @My:=@My
theorem lq:type_of% @DC:=@DC
theorem bs:type_of% @rk:=@rk
theorem lc:type_of% @T.iP:=@T.iP
theorem tj:type_of% @T.join:=@T.join
theorem lv:type_of% @gz:=@gz
theorem cv:type_of% @qz:=@qz
section
variable {P:Program} {N:Nat}
theorem jn{X:Type}{a b:C}{K:Exit→St→Prop}{s:St} [StbC N K] (S:X→St) {o:Option X}{β:Type}{f:X→Option β}{r:β}(h:o.bind f=some r) (ha:∀z,o=some z→Tm.T P N a (KJ N K S (.inl z:X⊕Unit)) s) (hb:∀z,o=some z→f z=some r→Tm.T P N b K (S z)):Tm.T P N (.seq a b) K s:=by
 obtain⟨z,h1,h2⟩:=rk h;refine T.join (R:=Unit) S (.inl z) (ha z h1) ?_;rintro _ ⟨⟩;exact hb z h1 h2
theorem gi{p q Y N:Prop} [Decidable q] {α:Type}{A B:Option α}{r:α}(h:(if q then A else B)=some r) (h1:q→A=some r→Y) (h2:¬q→B=some r→N) (hpq:p=q:=by rfl):gP p Y N:=gP.ite h (iff_of_eq hpq) h1 h2
theorem rt:type_of% @T.ret:=@T.ret
theorem er:type_of% @tB:=@tB
end
theorem eT{α:Type} [BEq α] [LawfulBEq α] {a b:α}(h:a=b):(a==b)=true:=beq_iff_eq.2 h
theorem eF{α:Type} [BEq α] [LawfulBEq α] {a b:α}(h:¬a=b):(a==b)=false:=beq_eq_false_iff_ne.2 h
theorem eD{α:Type} [BEq α] [LawfulBEq α] {a b:α}(h:¬ ¬a=b):(a==b)=true:=beq_iff_eq.2 (saa.1 h)
theorem nT{α:Type} [BEq α] [LawfulBEq α] {a b:α}(h:¬a=b):(a !=b)=true:=bne_iff_ne.2 h
theorem nF{α:Type} [BEq α] [LawfulBEq α] {a b:α}(h:a=b):(a !=b)=false:=by simpa using h
theorem nD{α:Type} [BEq α] [LawfulBEq α] {a b:α}(h:¬ ¬a=b):(a !=b)=false:=nF (saa.1 h)
theorem bI{α β:Type}{l:List α}{i:Int}{g:α→Option β}{r:β}(h:(idx l i).bind g=some r):∃x,0≤i∧l[i.toNat]?=some x∧g x=some r:=by
 obtain⟨x,h1,h2⟩:=rk h;obtain⟨h3,h4⟩:=W1 h1;exact⟨x,h3,h4,h2⟩
theorem bO{α β:Type}{l:List α}{i:Int}{g:α→Option β}{r:β}(h:(idx l i).bind g=some r):∃x,0≤i∧l[i.toNat]?=some x∧i.toNat<l.length∧g x=some r:=by
 obtain⟨x,h1,h2⟩:=rk h;obtain⟨h3,h4,h5⟩:=A0 h1;exact⟨x,h3,h4,h5,h2⟩
section
variable {P:Program} {N:Nat}
theorem jm{X:Type}{a b:C}{K:Exit→St→Prop}{s:St} [StbC N K] {o:Option X}{β:Type}{f:X→Option β}{r:β}(h:o.bind f=some r) (S:X→St) (ha:∀z,o=some z→Tm.T P N a (KJ N K S (.inl z:X⊕Unit)) s) (hb:∀z,o=some z→f z=some r→Tm.T P N b K (S z)):Tm.T P N (.seq a b) K s:=jn S h ha hb
theorem lm{σ β ρ:Type}{id:Nat}{K:Exit→St→Prop} [hst:StbC N K] {x:C}{s:St}{step:σ→Option (Ex σ β ρ)}{x0:σ}{y:β⊕ρ}(hy:Tm.ia step x0=some y) (S:σ→St) (B:β→St) (hs:Tells N s (S x0))
 (round:∀a z,step a=some z→(∀v,z=.ret v→y=.inr v)→Tm.T P N x (KL N id K S B z) (S a))
 (rest:∀b,y=.inl b→K .normal (B b)):Tm.T P N (.block id (.loop x)) K s:=T.iP S B step x0 hy hs round rest
end
abbrev ok(i:Nat):Option Nat×Nat×Nat:=(some i,0,0)
abbrev ov(i v:Nat):Option Nat×Nat×Nat:=(some i,v,0)
abbrev on(S:Nat):Option Nat×Nat×Nat:=(none,S,0)
theorem tq{N:Nat}(ρ:Im) {s S:St}(h:Tx (Sq ρ s.m 9) s.t S.t∧Jx ρ s.m ρ S.m) (hk:Vs ρ N=true:=by rfl) (h3:(ρ.filterMap (·.1)).Nodup:=by decide):Tells N s S:=Tells.q ρ hk h3 h
theorem fq:type_of% @HU:=@HU
theorem zr:type_of% (And.intro (And.intro @ow @mA) (And.intro @xz @Nw)):=And.intro (And.intro @ow @mA) (And.intro @xz @Nw)
class FrL (l:List D):Prop where
 h:fa l=true
instance:FrL []:=⟨rfl⟩
instance {α:Type}{e:α→D} [Fr e] {x:α}{l:List D} [FrL l]:FrL (e x::l):=⟨Vz FrL.h⟩
theorem dk{P:Program}{k:Nat}{l:List D}{o:D}(n:Nat) (K:Kf P k) (h:T P 0 K.F.code (YA K.F.results o) ⟨l++Tm.ds n [],[]⟩) (hf:fa l=true:=by exact FrL.h) (hn:K.F.ntmps=l.length+n:=by rfl):Den P k l o:=Den.at n K.ok K.nm hf hn h
end Go.Tm
namespace Go.Tm
variable {P:Program}
def mK(P:Program) (k:Nat) (ds:List D) (S:Nat) (l:List D):Prop:=∀m,CallT P k ds m fun d m'=>d=.own m.length 0∧m'=m++[.live S 0 l]
theorem zV{k S:Nat}{l ds:List D}(hds:fa ds=true) (hl:fa l=true) (h:CallT P k ds [] fun d m'=>d=.own 0 0∧m'=[.live S 0 l]):mK P k ds S l:=by
 refine fun m=>⟨h.1,fun G w vs hv hi=>?_⟩;have h0:=h.2 (Gh.bare G.F) w vs (VsRel.free (G:=G) (G':=Gh.bare G.F) ⟨fun _ h=>h,fun _ _=>rfl⟩ hds hv) (Ev hi.F (hi.gl.bare fun _ h=>h));refine h0.mono ?_;rintro e w' ⟨v,d,m',G',rfl,⟨rfl,rfl⟩,hvd,hi',hs⟩;obtain⟨fV,fS,fN,fC,fB⟩:=hi'.ent 0 _ rfl;have hGn:=hi.n;have noO:∀b,¬me (Gh.bare G.F) [] b:=fun b=>Bt;have owned0:∀b,G'.B 0=some b→me G' [.live S 0 l] b:=fun b hb=>⟨0,_,rfl,rfl,hb⟩;have newb:∀b,G'.B 0=some b→w.heap.size≤b:=fun b hb=>by
  rcases Taa b w.heap.size with h|h
  ·exact(noO b (hs.newB b h (owned0 b hb))).elim
  ·exact h
 have hF:∀b,b<w.heap.size→G'.F b→G.F b:=fun b hb hf=>by
  rcases hs.newF b hb hf with h|h
  ·exact h
  ·exact(noO b h).elim
 have hsub:SubF G' w' ⟨G'.F,G.n+1,fun i=>if i=G.n then G'.B 0 else G.B i,fun i=>if i=G.n then 0 else G.V i,fun i=>if i=G.n then G'.S 0 else G.S i,fun i=>if i=G.n then G'.N 0 else G.N i,fun i=>if i=G.n then G'.C 0 else G.C i⟩ w':=⟨fun _ h=>h,fun _ _=>rfl⟩;have hle:Le G w ⟨G'.F,G.n+1,fun i=>if i=G.n then G'.B 0 else G.B i,fun i=>if i=G.n then 0 else G.V i,fun i=>if i=G.n then G'.S 0 else G.S i,fun i=>if i=G.n then G'.N 0 else G.N i,fun i=>if i=G.n then G'.C 0 else G.C i⟩ w':=by
  refine⟨fun b hb=>hs.le.F b hb,fun b hb=>hs.le.heap b hb,by simp,fun i hi=>.inl ?_⟩;have:i≠G.n:=by omega
  simp[this]
 have hget:∀i x,(m++[.live S 0 l])[i]?=some x→(m[i]?=some x∧i≠G.n)∨(i=G.n∧x=.live S 0 l):=by
  intro i x hx;rw[hGn];rcases Taa i m.length with h|h
  ·rw[Iaa h]at hx;exact .inl ⟨hx,by omega⟩
  ·rw[rab h]at hx;have:i-m.length=0:=by
    rcases Nat.eq_zero_or_pos (i-m.length)with h'|h'
    ·exact h'
    ·rw[Saa (by simp;omega)]at hx;cases hx
   rw[this]at hx;exact .inr ⟨by omega,by simpa using hx.symm⟩
 have olt:∀i x,m[i]?=some x→x.isLive=true→∀b,G.B i=some b→b<w.heap.size∧¬G.F b:=fun i x hx hl b hb=>(hi.ent i x hx).lt hl hb;refine⟨v,_,_,⟨G'.F,G.n+1,fun i=>if i=G.n then G'.B 0 else G.B i,fun i=>if i=G.n then 0 else G.V i,fun i=>if i=G.n then G'.S 0 else G.S i,fun i=>if i=G.n then G'.N 0 else G.N i,fun i=>if i=G.n then G'.C 0 else G.C i⟩,rfl,⟨rfl,rfl⟩,?_,⟨by simp[hi.n],hi'.F,?_,?_,hi'.gl.bare fun _ h=>h⟩,⟨hle,hs.os,hs.tape,hs.output,hs.size,?_,?_,?_⟩⟩
 ·simp only[VRel]at hvd⊢;obtain⟨a,n,c,rfl,h1,h2,h3⟩:=hvd;exact⟨a,n,c,rfl,by simp[hGn],by simp,fun _=>by simpa [hGn] using h3 fV⟩
 ·intro i x hx;rcases hget i x hx with⟨h1,h2⟩|⟨rfl,rfl⟩
  ·by_cases hlx:x.isLive=true
   ·refine(hi.ent i x h1).mono hle (by simp[h2]) (fun b hb=>?_) (fun b hb _ hf=>?_)
    ·exact hs.keep b (olt i x h1 hlx b hb).1 (noO b)
    ·exact hF b (olt i x h1 hlx b hb).1 hf
   ·cases x with
    |gone=>trivial
    |_=>simp[Ent.isLive]at hlx
  ·refine⟨by simp,by simpa using fS,by simpa using fN,by simpa using fC,?_⟩;rcases fB with h|⟨b,cs,T,h1,h2,h3,h4,h5⟩
   ·exact .inl (by simpa using h)
   ·exact .inr ⟨b,cs,T,by simpa using h1,h2,h3,by simpa using h4,by simpa using Ha.free hsub rfl hl h5⟩
 ·intro i j x y hx hy lx ly b hb hb';rcases hget i x hx with⟨h1,h2⟩|⟨rfl,rfl⟩<;>rcases hget j y hy with⟨h3,h4⟩|⟨rfl,rfl⟩
  ·exact hi.apart i j x y h1 h3 lx ly b (by simpa [h2] using hb) (by simpa [h4] using hb')
  ·have:=newb b (by simpa using hb');have:=(olt i x h1 lx b (by simpa [h2] using hb)).1;omega
  ·have:=newb b (by simpa using hb);have:=(olt j y h3 ly b (by simpa [h4] using hb')).1;omega
  ·rfl
 ·intro b hb hno;exact hs.keep b hb (noO b)
 ·intro b hb hf;exact .inl (hF b hb hf)
 ·rintro b hb ⟨i,x,hx,lx,hB⟩;rcases hget i x hx with⟨h1,h2⟩|⟨rfl,rfl⟩
  ·exact⟨i,x,h1,lx,by simpa [h2] using hB⟩
  ·have:=newb b (by simpa using hB);omega
theorem mK.den{k S:Nat}{l ds:List D}(hds:fa ds=true) (hl:fa l=true) (h:mK P k ds S l):Den P k ds (.sl S l):=by
 refine AE hds ((h []).mono ?_);rintro d m' ⟨rfl,rfl⟩;exact .Vd (by simp) rfl (Sbs.free hl) .nil
theorem TD{k:Nat}{ds:List D}{R:D→List Ent→Prop}{d2:D}{m2:List Ent}(h:CallT P k ds [] R) (ht:∀d m',R d m'→Tells 0 ⟨[d],m'⟩ ⟨[d2],m2⟩):CallT P k ds [] fun d m'=>d=d2∧m'=m2:=by
 refine⟨h.1,fun G w vs hv hi=>(h.2 G w vs hv hi).mono ?_⟩;rintro e w' ⟨v,d,m',G',rfl,hR,hvd,hi',hs⟩;have hr:Rel G' w' { tmps:=#[v],defers:=[] } ⟨[d],m'⟩:=⟨by simp only[VsRel];exact⟨v,[],rfl,hvd,rfl⟩,hi',rfl⟩;obtain⟨G'',h3,h4⟩:=Um (ht d m' hR) (Bab _) hr;have hT:=h3.t;simp only[VsRel]at hT;obtain⟨u,us,he,h1,_⟩:=hT;injection he with he _;subst he;have h5:=(hs.RN (Bab _)).trans h4;have h0:0=G.n:=by rw[hi.n];rfl
 rw[h0]at h5;exact⟨_,d2,m2,G'',rfl,⟨rfl,rfl⟩,h1,h3.inv,h5.toStep⟩
def UY(rs:List RV) (S:Nat) (l:List D) (e:Exit) (s:St):Prop:=
 match e with
 |.normal=>∃S',Tells 0 s S'∧∃ds,Xa S' rs=some ds∧Tells 0 ⟨[Gk ds],S'.m⟩ ⟨[.own 0 0],[.live S 0 l]⟩
 |.ret=>∃S',Tells 0 s S'∧∃ds,Xa S' rs=some ds∧Tells 0 ⟨[Gk ds],S'.m⟩ ⟨[.own 0 0],[.live S 0 l]⟩
 |_=>False
def JV(r:Option (List D)) (m:List Ent) (S:Nat) (l:List D):Prop:=∃ds,r=some ds∧Tells 0 ⟨[Gk ds],m⟩ ⟨[.own 0 0],[.live S 0 l]⟩
theorem yZ{rs:List RV}{S:Nat}{l:List D}{s:St}(h:JV (Xa s rs) s.m S l):UY rs S l .ret s:=by
 obtain⟨ds,h1,h2⟩:=h;exact⟨s,.refl s,ds,h1,h2⟩
theorem vZ{ds:List D}{m:List Ent}{S:Nat}{l:List D}:JV (some ds) m S l=Tells 0 ⟨[Gk ds],m⟩ ⟨[.own 0 0],[.live S 0 l]⟩:=by simp[JV]
instance {rs:List RV}{S:Nat}{l:List D}:StbC 0 (UY rs S l):=⟨by
 rintro s S' h ⟨S1,h1,h2⟩;exact⟨S1,h.trans h1,h2⟩⟩
theorem mK.at{k S:Nat}{F:Fun}{ds l:List D}(n:Nat) (hF:vq P k=some F) (hname:((P.funcs[k]?).map fun fn=>fn.name == "runtime.NumGoroutine")=some false)
 (hds:fa ds=true) (hl:fa l=true) (hn:F.ntmps=ds.length+n) (h:T P 0 F.code (UY F.results S l) ⟨ds++Tm.ds n [],[]⟩):mK P k ds S l:=by
 refine zV hds hl (TD (R:=fun d m'=>Tells 0 ⟨[d],m'⟩ ⟨[.own 0 0],[.live S 0 l]⟩) (Xh hF hname ?_) fun _ _ h=>h);rw[hn,Kac,←Pw];refine T.JM (h.mono ?_);have key:∀(e:Exit) (s:St),(∀s',Pu F.results (fun d m'=>Tells 0 ⟨[d],m'⟩ ⟨[.own 0 0],[.live S 0 l]⟩) e s' = ∃ds,Xa s' F.results=some ds∧Tells 0 ⟨[Gk ds],s'.m⟩ ⟨[.own 0 0],[.live S 0 l]⟩)→(∃S',Tells 0 s S'∧∃ds,Xa S' F.results=some ds∧Tells 0 ⟨[Gk ds],S'.m⟩ ⟨[.own 0 0],[.live S 0 l]⟩)→xE 0 (Pu F.results fun d m'=>Tells 0 ⟨[d],m'⟩ ⟨[.own 0 0],[.live S 0 l]⟩) e s:=by
  intro e s he ⟨S,h1,h2⟩ G w a hN hr;obtain⟨G',h3,h4⟩:=Um h1 hN hr;exact⟨S,G',by rw[he];exact h2,h3,h4⟩
 intro e s hs
 cases e with
 |normal=>exact key _ s (fun _=>rfl) hs
 |ret=>exact key _ s (fun _=>rfl) hs
 |_=>exact(hs:False).elim
theorem C8{k S:Nat}{ds ds' l:List D}{m:List Ent}{f:D→List Ent→Prop}(h:mK P k ds' S l) (hf:f (.own m.length 0) (m++[.live S 0 l])) (hs:ra ds ds'):qe P k ds m f:=
 Ub (vK hs (h m)) hf
end Go.Tm
namespace Go.Tm
inductive Q where
 |p (n:Nat)
 |k (n:Nat)
 |s (d:D)
 |y (i:Nat)
 |g (q:List Q)
inductive M1 where
 |o (j:Nat)
 |O (j:Nat)
 |H (j:Nat) (q:List Q)
 |C (j:Nat) (l:List D)
 |c (j:Nat) (l:List D)
 |n (S:Nat) (l:List D)
 |h (j:Nat) (q:List Q)
 |m (j:Nat) (l:List (Value×D))
structure Ed where
 q:List Q
 m:List M1
inductive Hi:Type 1 where
 |o
 |b (l r:Hi)
 |z (n:Nat) (x:Hi)
 |t (ρ:Im)
 |a (ps:List (List Nat)) (x:Hi)
 |g (ps:List (List Nat)) (pl:List (Option Nat)) (x:Hi)
 |f (S:Ed) (ρ:Im) (x:Hi)
 |d (M:List M1) (ρ:Im) (x:Hi)
 |j {X:Type} (n:Nat) (S:X→Ed) (l r:Hi)
 |e {X:Type} (n:Nat) (S:X→Ed) (l r:Hi)
 |l {σ β:Type} (n m:Nat) (S:σ→Ed) (B:β→Ed) (ρ:Im) (x y:Hi)
 |u {σ:Type} (n:Nat) (S:σ→Ed) (ρ:Im) (x:Hi)
 |i {X:Type} {P:Program} {k:Nat} (K:Kf P k) (n w:Nat) (S:X→Ed) (x y:Hi)
 |c {P:Program} {k:Nat} (K:Kf P k) (w:Nat) (x:Hi)
 |v (x:Hi)
def Qk:List M1→Nat→Nat→Option (Nat×Bool)
 |[],_,_=>none
 |.o k::l,j,i=>bif k==j then some (i,false)else Qk l j (i+1)
 |.c k _::l,j,i=>bif k==j then some (i,false)else Qk l j (i+1)
 |.h k _::l,j,i=>bif k==j then some (i,false)else Qk l j (i+1)
 |.O k::l,j,i=>bif k==j then some (i,true)else Qk l j (i+1)
 |.H k _::l,j,i=>bif k==j then some (i,true)else Qk l j (i+1)
 |.C k _::l,j,i=>bif k==j then some (i,true)else Qk l j (i+1)
 |.n _ _::l,j,i=>Qk l j (i+1)
 |.m k _::l,j,i=>bif k==j then some (i,false)else Qk l j (i+1)
def EW(o:Option (Nat×Bool)) (v:Nat) (f:Nat→Nat→D):D:=match o with|some (i,b)=>f i (bif b then v else 0)|none=>.dead
mutual
def Bo(ks:List M1) (m:List Ent):Nat→D→D
 |n+1,.own j v=>SU ks m n v m[j]? (Qk ks j 0)
 |n+1,.ref j v x s=>EU ks m n v x s m[j]? (Qk ks j 0)
 |_+1,.view j v lo k=>EW (Qk ks j 0) v fun i v=>.view i v lo k
 |_+1,.mp j=>EW (Qk ks j 0) 0 fun i _=>.mp i
 |n+1,.agg l=>.agg (aq ks m n l)
 |n+1,.tup l=>.tup (aq ks m n l)
 |n+1,.fn k a c=>.fn k (aq ks m n a) (aq ks m n c)
 |n+1,.pt d=>.pt (Bo ks m n d)
 |_,d=>d
def SU(ks:List M1) (m:List Ent) (n v:Nat):Option Ent→Option (Nat×Bool)→D
 |_,some (i,b)=>.own i (bif b then v else 0)
 |some (.live S _ l),none=>.sl S (aq ks m n l)
 |_,none=>.dead
def EU(ks:List M1) (m:List Ent) (n v x s:Nat):Option Ent→Option (Nat×Bool)→D
 |_,some (i,b)=>.ref i (bif b then v else 0) x s
 |some (.live _ _ (d::_)),none=>.pt (Bo ks m n d)
 |_,none=>.dead
def aq(ks:List M1) (m:List Ent) (n:Nat):List D→List D
 |[]=>[]
 |d::l=>Bo ks m n d::aq ks m n l
end
mutual
theorem BA(ks:List M1) (m:List Ent):∀(n:Nat) (d:D),la d=true→Bo ks m n d=d
 |n+1,.agg l,h=>by simp only[la]at h;simp only[Bo,we ks m n l h]
 |n+1,.tup l,h=>by simp only[la]at h;simp only[Bo,we ks m n l h]
 |n+1,.fn k a c,h=>by simp only[la,paa]at h;simp only[Bo,we ks m n a h.1,we ks m n c h.2]
 |n+1,.pt d,h=>by simp only[la]at h;simp only[Bo,BA ks m n d h]
 |_,.own _ _,h=>by simp[la]at h
 |_,.view _ _ _ _,h=>by simp[la]at h
 |_,.ref _ _ _ _,h=>by simp[la]at h
 |_,.mp _,h=>by simp[la]at h
 |n,.v _,_=>by cases n<;>simp only[Bo]
 |n,.sl _ _,_=>by cases n<;>simp only[Bo]
 |n,.ifc _ _,_=>by cases n<;>simp only[Bo]
 |n,.dead,_=>by cases n<;>simp only[Bo]
 |0,.agg _,_=>by simp only[Bo]
 |0,.tup _,_=>by simp only[Bo]
 |0,.fn _ _ _,_=>by simp only[Bo]
 |0,.pt _,_=>by simp only[Bo]
theorem we(ks:List M1) (m:List Ent) (n:Nat):∀l:List D,fa l=true→aq ks m n l=l
 |[],_=>by simp only[aq]
 |d::l,h=>by simp only[fa,paa]at h;simp only[aq,BA ks m n d h.1,we ks m n l h.2]
end
def nE:List D→List D
 |[]=>[]
 |_::l=>.dead::nE l
def dr(ks:List M1) (m:List Ent) (u:List D):List Q→List D→List D
 |[],l=>nE l
 |_::_,[]=>[]
 |.p 0::q,l=>dr ks m u q l
 |.p (n+1)::q,d::l=>Bo ks m 9 d::dr ks m u (.p n::q) l
 |.k 0::q,l=>dr ks m u q l
 |.k (n+1)::q,d::l=>.dead::dr ks m u (.k n::q) l
 |.s e::q,d::l=>e::dr ks m u q l
 |.y i::q,_::l=>Bo ks m 9 (u.getD i .dead)::dr ks m u q l
 |.g r::q,.agg b::l=>.agg (dr ks m u r b)::dr ks m u q l
 |.g _::q,d::l=>d::dr ks m u q l
def eO(ks:List M1) (m:List Ent):Option Ent→Ent
 |some (.live S v l)=>.live S 0 (aq ks m 9 l)
 |some e=>e
 |none=>.gone
def eX(b:List D):Option Ent→Ent
 |some (.live S v _)=>.live S v b
 |some e=>e
 |none=>.gone
def eV(ks:List M1) (m:List Ent):Option Ent→Ent
 |some (.live S v l)=>.live S v (aq ks m 9 l)
 |some e=>e
 |none=>.gone
def eW(ks:List M1) (m:List Ent) (q:List Q):Option Ent→Ent
 |some (.live S v l)=>.live S v (dr ks m [] q l)
 |some e=>e
 |none=>.gone
def eC(b:List D):Option Ent→Ent
 |some (.live S v _)=>.live S 0 b
 |some e=>e
 |none=>.gone
def eH(ks:List M1) (m:List Ent) (q:List Q):Option Ent→Ent
 |some (.live S v l)=>.live S 0 (dr ks m [] q l)
 |some e=>e
 |none=>.gone
def pQ(ks:List M1) (m:List Ent):M1→Ent
 |.o j=>eO ks m m[j]?
 |.c j l=>eC l m[j]?
 |.n S l=>.live S 0 l
 |.h j q=>eH ks m q m[j]?
 |.O j=>eV ks m m[j]?
 |.C j l=>eX l m[j]?
 |.H j q=>eW ks m q m[j]?
 |.m _ l=>.mp l
def BZ(ks:List M1) (m:List Ent):List M1→List Ent
 |[]=>[]
 |x::l=>pQ ks m x::BZ ks m l
def E8(ks:List M1) (m:List Ent):Option Ent→Ent
 |some (.live S _ l)=>.live S 0 (aq ks m 9 l)
 |some e=>e
 |none=>.gone
def J9(ks:List M1) (m:List Ent):Option Ent→Ent
 |some (.live S v l)=>.live S v (aq ks m 9 l)
 |some e=>e
 |none=>.gone
def rQ(ks:List M1) (m:List Ent):List M1→List Ent
 |[]=>[]
 |.o j::l=>E8 ks m m[j]?::rQ ks m l
 |.O j::l=>J9 ks m m[j]?::rQ ks m l
 |_::l=>rQ ks m l
def fd(ks:List M1) (s:St):St:=⟨aq ks s.m 9 s.t,rQ ks s.m ks⟩
def ed(E:Ed) (s:St):St:=⟨dr E.m s.m s.t E.q s.t,BZ E.m s.m E.m⟩
section
variable {ks l:List M1} {i j k n S:Nat} {d e:D} {b c u:List D} {q:List Q} {t:List D} {m r:List Ent} {f:Nat→Nat→D} {x:M1} {v lo y:Nat} {a:Ent}
theorem U9:ed ⟨q,ks⟩ ⟨t,m⟩=⟨dr ks m t q t,BZ ks m ks⟩:=kaa rfl rfl
theorem sP:Qk [] j i=none:=kaa rfl rfl
theorem SN:Qk (.o k::l) j i=bif k==j then some (i,false)else Qk l j (i+1):=kaa rfl rfl
theorem eQ:Qk (.O k::l) j i=bif k==j then some (i,true)else Qk l j (i+1):=kaa rfl rfl
theorem IL:Qk (.H k q::l) j i=bif k==j then some (i,true)else Qk l j (i+1):=kaa rfl rfl
theorem nL:Qk (.C k b::l) j i=bif k==j then some (i,true)else Qk l j (i+1):=kaa rfl rfl
theorem qO:Qk (.c k b::l) j i=bif k==j then some (i,false)else Qk l j (i+1):=kaa rfl rfl
theorem vP:Qk (.h k q::l) j i=bif k==j then some (i,false)else Qk l j (i+1):=kaa rfl rfl
theorem GM:Qk (.n S b::l) j i=Qk l j (i+1):=kaa rfl rfl
theorem wM{a:List (Value×D)}:Qk (.m k a::l) j i=bif k==j then some (i,false)else Qk l j (i+1):=kaa rfl rfl
theorem J8{a:List (Value×D)}:pQ ks m (.m j a)=.mp a:=kaa rfl rfl
theorem y9{a:List (Value×D)}:eO ks m (some (.mp a))=.mp a:=kaa rfl rfl
theorem Y4{a:List (Value×D)}:E8 ks m (some (.mp a))=.mp a:=kaa rfl rfl
theorem PX:EW (some (i,true)) v f=f i v:=kaa rfl rfl
theorem WV:EW (some (i,false)) v f=f i 0:=kaa rfl rfl
theorem gX:EW none v f=.dead:=kaa rfl rfl
theorem W8:pQ ks m (.o j)=eO ks m m[j]?:=kaa rfl rfl
theorem T8:eO ks m (some (.live S v b))=.live S 0 (aq ks m 9 b):=kaa rfl rfl
theorem d_f2:eC c (some (.live S v b))=.live S 0 c:=kaa rfl rfl
theorem B9:eH ks m q (some (.live S v b))=.live S 0 (dr ks m [] q b):=kaa rfl rfl
theorem P9:pQ ks m (.c j c)=eC c m[j]?:=kaa rfl rfl
theorem Q8:pQ ks m (.n S b)=.live S 0 b:=kaa rfl rfl
theorem N8:pQ ks m (.O j)=eV ks m m[j]?:=kaa rfl rfl
theorem p9:pQ ks m (.H j q)=eW ks m q m[j]?:=kaa rfl rfl
theorem daa:eV ks m (some (.live S v b))=.live S v (aq ks m 9 b):=kaa rfl rfl
theorem M8:eW ks m q (some (.live S v b))=.live S v (dr ks m [] q b):=kaa rfl rfl
theorem d_e7:pQ ks m (.C j c)=eX c m[j]?:=kaa rfl rfl
theorem d_f6:eX c (some (.live S v b))=.live S v c:=kaa rfl rfl
theorem E9:pQ ks m (.h j q)=eH ks m q m[j]?:=kaa rfl rfl
theorem gaa:BZ ks m []=[]:=kaa rfl rfl
theorem r9:BZ ks m (x::l)=pQ ks m x::BZ ks m l:=kaa rfl rfl
theorem caa:nE []=[]:=kaa rfl rfl
theorem d_k1:nE (d::b)=.dead::nE b:=kaa rfl rfl
theorem K9:dr ks m u [] b=nE b:=by simp only[dr]
theorem Z9:dr ks m u (.p 0::q) b=dr ks m u q b:=by cases b<;>cases q<;>simp only[dr,nE]
theorem d_q2:dr ks m u (.p (n+1)::q) (d::b)=Bo ks m 9 d::dr ks m u (.p n::q) b:=by simp only[dr]
theorem K8:dr ks m u (.k 0::q) b=dr ks m u q b:=by cases b<;>cases q<;>simp only[dr,nE]
theorem Z8:dr ks m u (.k (n+1)::q) (d::b)=.dead::dr ks m u (.k n::q) b:=by simp only[dr]
theorem R8:dr ks m u (.s e::q) (d::b)=e::dr ks m u q b:=by simp only[dr]
theorem aaa{g:List Q}:dr ks m u (.g g::q) (.agg c::b)=.agg (dr ks m u g c)::dr ks m u q b:=by simp only[dr]
theorem d_q7{i:Nat}:dr ks m u (.y i::q) (d::b)=Bo ks m 9 (u.getD i .dead)::dr ks m u q b:=by simp only[dr]
theorem H6:fd ks ⟨t,m⟩=⟨aq ks m 9 t,rQ ks m ks⟩:=kaa rfl rfl
theorem rM:Bo ks m (n+1) (.own j v)=SU ks m n v m[j]? (Qk ks j 0):=by simp only[Bo]
theorem AP:Bo ks m (n+1) (.ref j v y k)=EU ks m n v y k m[j]? (Qk ks j 0):=by simp only[Bo]
theorem kH:Bo ks m (n+1) (.view j v lo k)=EW (Qk ks j 0) v fun i v=>.view i v lo k:=by simp only[Bo]
theorem YV:Bo ks m (n+1) (.mp j)=EW (Qk ks j 0) 0 fun i _=>.mp i:=by simp only[Bo]
theorem OL:Bo ks m (n+1) (.agg b)=.agg (aq ks m n b):=by simp only[Bo]
theorem qP:Bo ks m (n+1) (.tup b)=.tup (aq ks m n b):=by simp only[Bo]
theorem GY:Bo ks m (n+1) (.fn k b c)=.fn k (aq ks m n b) (aq ks m n c):=by simp only[Bo]
theorem IY:Bo ks m (n+1) (.pt d)=.pt (Bo ks m n d):=by simp only[Bo]
theorem L9{x:Value}:Bo ks m n (.v x)=.v x:=by cases n<;>simp only[Bo]
theorem DX:Bo ks m n (.sl S b)=.sl S b:=by cases n<;>simp only[Bo]
theorem UL:Bo ks m n (.ifc S d)=.ifc S d:=by cases n<;>simp only[Bo]
theorem DH:Bo ks m n .dead=.dead:=by cases n<;>simp only[Bo]
theorem SW{α:Type}{e:α→D} [Fr e] {x:α}:Bo ks m n (e x)=e x:=BA ks m n _ (Fr.h x)
theorem JW:aq ks m n []=[]:=by simp only[aq]
theorem ZX:aq ks m n (d::b)=Bo ks m n d::aq ks m n b:=by simp only[aq]
theorem KX{α:Type}{e:α→D} [Fr e] {x:List α}:aq ks m n (x.map e)=x.map e:=we ks m n _ (Fr.l x)
theorem MX{o:Option Ent}:SU ks m n v o (some (i,false))=.own i 0:=by cases o<;>simp only[SU,cond_false]
theorem rV{o:Option Ent}:SU ks m n v o (some (i,true))=.own i v:=by cases o<;>simp only[SU,cond_true]
theorem nX:SU ks m n v (some (.live S k b)) none=.sl S (aq ks m n b):=by simp only[SU]
theorem AX{o:Option Ent}:EU ks m n v y k o (some (i,false))=.ref i 0 y k:=by cases o<;>simp only[EU,cond_false]
theorem eY{o:Option Ent}:EU ks m n v y k o (some (i,true))=.ref i v y k:=by cases o<;>simp only[EU,cond_true]
theorem LX:EU ks m n v y k (some (.live S j (d::b))) none=.pt (Bo ks m n d):=by simp only[EU]
theorem n6:E8 ks m (some (.live S v b))=.live S 0 (aq ks m 9 b):=kaa rfl rfl
theorem n7:J9 ks m (some (.live S v b))=.live S v (aq ks m 9 b):=kaa rfl rfl
theorem Z1:rQ ks m []=[]:=kaa rfl rfl
theorem L3:rQ ks m (.o j::l)=E8 ks m m[j]?::rQ ks m l:=kaa rfl rfl
theorem Y7:rQ ks m (.O j::l)=J9 ks m m[j]?::rQ ks m l:=kaa rfl rfl
theorem PY{α:Type}{x y:α}:(bif true then x else y)=x:=kaa rfl rfl
theorem rY{α:Type}{x y:α}:(bif false then x else y)=y:=kaa rfl rfl
end
theorem zf:type_of% (And.intro (And.intro (And.intro (And.intro (And.intro (And.intro @H6 @rM) (And.intro @AP @kH)) (And.intro (And.intro @YV @OL) (And.intro @qP @GY))) (And.intro (And.intro (And.intro @IY @L9) (And.intro @DX @UL)) (And.intro (And.intro @DH @SW) (And.intro @JW @ZX)))) (And.intro (And.intro (And.intro (And.intro @KX @MX) (And.intro @rV @nX)) (And.intro (And.intro @AX @eY) (And.intro @LX @n6))) (And.intro (And.intro (And.intro @n7 @Z1) (And.intro (And.intro @L3 (And.intro @wM @Y4)) @Y7)) (And.intro (And.intro @sP @SN) (And.intro @qO @vP))))) (And.intro (And.intro (And.intro (And.intro @GM @eQ) (And.intro @IL @nL)) (And.intro (And.intro @PX @WV) (And.intro @gX @PY))) (And.intro (And.intro @rY @Waa.{0}) @Uab.{0}))):=(And.intro (And.intro (And.intro (And.intro (And.intro (And.intro @H6 @rM) (And.intro @AP @kH)) (And.intro (And.intro @YV @OL) (And.intro @qP @GY))) (And.intro (And.intro (And.intro @IY @L9) (And.intro @DX @UL)) (And.intro (And.intro @DH @SW) (And.intro @JW @ZX)))) (And.intro (And.intro (And.intro (And.intro @KX @MX) (And.intro @rV @nX)) (And.intro (And.intro @AX @eY) (And.intro @LX @n6))) (And.intro (And.intro (And.intro @n7 @Z1) (And.intro (And.intro @L3 (And.intro @wM @Y4)) @Y7)) (And.intro (And.intro @sP @SN) (And.intro @qO @vP))))) (And.intro (And.intro (And.intro (And.intro @GM @eQ) (And.intro @IL @nL)) (And.intro (And.intro @PX @WV) (And.intro @gX @PY))) (And.intro (And.intro @rY @Waa.{0}) @Uab.{0})))def zd:=(And.intro (And.intro (And.intro (And.intro (And.intro (And.intro (And.intro @U9 @sP) (And.intro @SN @qO)) (And.intro (And.intro @vP @GM) (And.intro @eQ @IL))) (And.intro (And.intro (And.intro @nL @PX) (And.intro @WV @gX)) (And.intro (And.intro @W8 @P9) (And.intro @Q8 @E9)))) (And.intro (And.intro (And.intro (And.intro @N8 @p9) (And.intro @d_e7 @T8)) (And.intro (And.intro @d_f2 @B9) (And.intro @daa @M8))) (And.intro (And.intro (And.intro (And.intro @d_f6 (And.intro @wM (And.intro @J8 @y9))) @gaa) (And.intro @r9 @caa)) (And.intro (And.intro @d_k1 @K9) (And.intro @Z9 @d_q2))))) (And.intro (And.intro (And.intro (And.intro (And.intro @K8 @Z8) (And.intro @R8 @aaa)) (And.intro (And.intro @d_q7 @rM) (And.intro @AP @kH))) (And.intro (And.intro (And.intro @YV @OL) (And.intro @qP @GY)) (And.intro (And.intro @IY @L9) (And.intro @DX @UL)))) (And.intro (And.intro (And.intro (And.intro @DH @SW) (And.intro @JW @ZX)) (And.intro (And.intro @KX @MX) (And.intro @rV @nX))) (And.intro (And.intro (And.intro @AX @eY) (And.intro @LX @vab.{0})) (And.intro (And.intro @pab.{0} @PY) (And.intro @rY @Waa.{0})))))) @Uab.{0})
class HiC:Type 1 where
 h:Hi
def Yi[i:HiC] (p:Prop):Prop:=p
structure Wh (n:Nat) (p:Prop):Prop where
 h:p
structure Lh (n:Nat) (p:Prop):Prop where
 h:p
def EQ(p:Prop):Prop:=p
theorem EQ.out{p:Prop}(h:EQ p):p:=h
structure Lk {α β:Type}(c:α→β) (z:β) (w:α) (p:Prop):Prop where
 l:∀v,z=c v→v=w
 k:p
theorem cN{p:Prop}(h:¬p):¬p:=h
class Con (p:Prop) (q:outParam Prop):Prop where
 h:p→q
class Enc (α:Type) (e:outParam (α→D)):Prop where
 h:True
section
variable {P:Program} {N:Nat} {h x:Hi} {a b:C} {K:Exit→St→Prop} {s:St}
theorem gj{X:Type}{n:Nat}{S:X→Ed}(g:@Yi ⟨.j n S h x⟩ (Tm.T P N (.seq a b) K s)):@Yi ⟨.j n S h x⟩ (Tm.T P N (.seq a b) K s):=g
theorem ge{X:Type}{n:Nat}{S:X→Ed}(g:@Yi ⟨.e n S h x⟩ (Tm.T P N (.seq a b) K s)):@Yi ⟨.e n S h x⟩ (Tm.T P N (.seq a b) K s):=g
theorem gq{p:Prop}{R1 R2:St→Prop}{s1 s2:St}(g:@Yi ⟨h⟩ (gP p (R1 s1) (R2 s2))):@Yi ⟨h⟩ (gQ p R1 s1 R2 s2):=g
theorem gy1{R:List (List Nat)→St→Prop}{fp:List (List Nat)}{p:List Nat}{d:Option Tmp}{i:I}(g:@Yi ⟨h⟩ (PJ R fp p d i s)):@Yi ⟨h⟩ (PJ R fp p d i s):=g
theorem gy2{R:List (List Nat)→St→Prop}{fp:List (List Nat)}{p:List Nat}{d:Option Tmp}{i:I}(g:@Yi ⟨h⟩ (MY R fp p d i s)):@Yi ⟨h⟩ (MY R fp p d i s):=g
theorem gy3{R:List (List Nat)→St→Prop}{fp:List (List Nat)}{p:List Nat}{k:FuncId}{d:Option Tmp}{i:List Operand}(g:@Yi ⟨h⟩ (ZN P R fp p k d i s)):@Yi ⟨h⟩ (ZN P R fp p k d i s):=g
theorem gy4{R:List (List Nat)→St→Prop}{fp:List (List Nat)}{p:List Nat}{d:Option Tmp}{i:List Operand}(g:@Yi ⟨h⟩ (A6 R fp p d i s)):@Yi ⟨h⟩ (A6 R fp p d i s):=g
theorem gy5{ps:List (List Nat)}{q:Nat}{l:List RI}{R:St→Prop}{fp:List (List Nat)}(g:@Yi ⟨h⟩ (Wp P ps q l R fp s)):@Yi ⟨h⟩ (Wp P ps q l R fp s):=g
theorem gg{p A B:Prop}(g:@Yi ⟨h⟩ (gP p A B)):@Yi ⟨h⟩ (gP p A B):=g
theorem gcd{c:Operand}(g:@Yi ⟨h⟩ (Tm.T P N (.cond c a b) K s)):@Yi ⟨h⟩ (Tm.T P N (.cond c a b) K s):=g
theorem gcx{k:Nat}{ds:List D}{m:List Ent}{f:D→List Ent→Prop}(g:@Yi ⟨h⟩ (qe P k ds m f)):@Yi ⟨h⟩ (qe P k ds m f):=g
theorem gcl{k:Nat}{ds:List D}{i:List Nat}{R:St→Prop}{d:Option Tmp}(g:@Yi ⟨h⟩ (Er P k ds i R s d)):@Yi ⟨h⟩ (Er P k ds i R s d):=g
theorem gl{σ β:Type}{n m:Nat}{S:σ→Ed}{B:β→Ed}{ρ:Im}{y:Hi}{id:Nat}(g:@Yi ⟨.l n m S B ρ x y⟩ (Tm.T P N (.block id (.loop a)) K s)):@Yi ⟨.l n m S B ρ x y⟩ (Tm.T P N (.block id (.loop a)) K s):=g
theorem gu{σ:Type}{n:Nat}{S:σ→Ed}{ρ:Im}{id:Nat}(g:@Yi ⟨.u n S ρ x⟩ (Tm.T P N (.block id (.loop a)) K s)):@Yi ⟨.u n S ρ x⟩ (Tm.T P N (.block id (.loop a)) K s):=g
theorem gf{E:Ed}{ρ:Im}{q:Prop}(g:@Yi ⟨.f E ρ x⟩ q):@Yi ⟨.f E ρ x⟩ q:=g
theorem ga{ps:List (List Nat)}{q:Prop}(g:@Yi ⟨.a ps x⟩ q):@Yi ⟨.a ps x⟩ q:=g
theorem gao{ps:List (List Nat)}{pl:List (Option Nat)}{q:Prop}(g:@Yi ⟨.g ps pl x⟩ q):@Yi ⟨.g ps pl x⟩ q:=g
theorem yss(g:@Yi ⟨h⟩ (Tm.T P N a (KS P N b K) s)):@Yi ⟨h⟩ (Tm.T P N (.seq a b) K s):=T.FM g
theorem yz{n:Nat}(g:@Yi ⟨.z n h⟩ (Tm.T P N a (KS P N b K) s)):@Yi ⟨.z (n+1) h⟩ (Tm.T P N (.seq a b) K s):=T.FM g
theorem yz0{p:Prop}(g:@Yi ⟨h⟩ p):@Yi ⟨.z 0 h⟩ p:=g
theorem yrg{l:List RI}(g:@Yi ⟨h⟩ (Wf P l (K .normal) s)):@Yi ⟨h⟩ (Tm.T P N (.TF l) K s):=T.rg g
theorem ydy{q:Nat}{l:List RI}(hm:P.follows .mixedOrders=true) (g:@Yi ⟨h⟩ (Wp P [] q l (K .normal) [] s)):@Yi ⟨h⟩ (Tm.T P N (.draw q l) K s):=T.dy hm g
theorem yay{q:Nat}{l:List RI}{cuts:List Nat}{bs ps:List (List Nat)}(hm:P.follows .mixedOrders=true) (hok:rp bs l q ps []=true) (g:@Yi ⟨h⟩ (Wp P ps q l (K .normal) [] s)):@Yi ⟨.a ps h⟩ (Tm.T P N (.any cuts q bs l) K s):=T.ay hm ps hok g
theorem yao{q:Nat}{l:List RI}{cuts:List Nat}{bs ps:List (List Nat)}{pl:List (Option Nat)}(hm:P.follows .mixedOrders=true) (hok:rp bs l q ps pl=true) (hpl:iu s.m pl=true) (g:@Yi ⟨h⟩ (Jf P pl ps q l (K .normal) [] s)):@Yi ⟨.g ps pl h⟩ (Tm.T P N (.any cuts q bs l) K s):=T.ao hm ps pl hok hpl g
theorem ysk(g:@Yi ⟨h⟩ (K .normal s)):@Yi ⟨h⟩ (Tm.T P N .skip K s):=T.skip g
theorem yxt{id:Nat}(g:@Yi ⟨h⟩ (K (.exit id) s)):@Yi ⟨h⟩ (Tm.T P N (.exit id) K s):=T.exit g
theorem ybk{id:Nat}(g:@Yi ⟨h⟩ (Tm.T P N a (KB id K) s)):@Yi ⟨h⟩ (Tm.T P N (.block id a) K s):=T.bk g
theorem ycd{c:Operand}{t:Bool}(ht:s.ev c=.v (.bool t)) (g:@Yi ⟨h⟩ (gP (t=true) (Tm.T P N a K s) (Tm.T P N b K s))):@Yi ⟨h⟩ (Tm.T P N (.cond c a b) K s):=T.cd ht g
theorem ygi{p q A' B':Prop} [Decidable q] {α:Type}{A B:Option α}{r:α}(h1:q→A=some r→@Yi ⟨h⟩ A') (h2:¬q→B=some r→@Yi ⟨x⟩ B') (hpq:p=q:=by rfl) (e:(if q then A else B)=some r):@Yi ⟨.b h x⟩ (gP p A' B'):=gP.ite e (iff_of_eq hpq) h1 h2
theorem ygo{p q A' B':Prop} [Decidable q] {α:Type}{A B:Option α}{r:α}(h1:q→A=some r→@Yi ⟨.o⟩ A') (h2:¬q→B=some r→@Yi ⟨.o⟩ B') (hpq:p=q:=by rfl) (e:(if q then A else B)=some r):@Yi ⟨.o⟩ (gP p A' B'):=gP.ite e (iff_of_eq hpq) h1 h2
theorem ygc{p q A' B':Prop} [Decidable q] {α:Type}{A B:Option α}{r:α}(h1:q→A=some r→@Yi ⟨h⟩ A') (h2:¬q→B=some r→@Yi ⟨x⟩ B') (hpq:p↔q) (e:(if q then A else B)=some r):@Yi ⟨.b h x⟩ (gP p A' B'):=gP.ite e hpq h1 h2
theorem M9{p q A' B':Prop} [Decidable q] {α:Type}{A B:Option α}{r:α}(h1:q→A=some r→@Yi ⟨.o⟩ A') (h2:¬q→B=some r→@Yi ⟨.o⟩ B') (hpq:p↔q) (e:(if q then A else B)=some r):@Yi ⟨.o⟩ (gP p A' B'):=gP.ite e hpq h1 h2
theorem ycq{k:Nat}{p:Prop}{ds ds':List D}{o:D}{m:List Ent}{f:D→List Ent→Prop} [c:Con p (Den P k ds' o)] (e:p) (hf:@Yi ⟨h⟩ (f o m)) (hs:Tx (Sq [] [] 9) ds ds'):@Yi ⟨h⟩ (qe P k ds m f):=My (c.h e) hf hs
theorem ycv{k:Nat}{p:Prop}{ds ds':List D}{o:D}{m:List Ent}{f:D→List Ent→Prop} [c:Con p (Den P k ds' o)] (e:p) (hf:@Yi ⟨h⟩ (f o m)) (hfl:flat o=true) (hs:Tx (Sq [] m 9) ds ds'):@Yi ⟨h⟩ (qe P k ds m f):=qz (c.h e) hf hfl hs
theorem ylq{k:Nat}{p:Prop}{ds ds':List D}{o:D}{R:St→Prop}{dst:Option Tmp} [c:Con p (Den P k ds' o)] (e:p) (hf:@Yi ⟨h⟩ (R (s.put dst o))) (hs:Tx (Sq [] [] 9) ds ds'):@Yi ⟨h⟩ (Er P k ds [] R s dst):=DC (c.h e) hf hs
theorem ylv{k:Nat}{p:Prop}{ids:List Nat}{ds ds':List D}{o:D}{R:St→Prop}{dst:Option Tmp} [c:Con p (Den P k ds' o)] (e:p) (hf:@Yi ⟨h⟩ (R (s.put dst o))) (hfl:flat o=true) (hi:(ids.all fun i=>decide (i<s.m.length))=true) (ht:wx ids ds=true) (hs:Tx (Lq s.m) ds ds'):@Yi ⟨h⟩ (Er P k ds ids R s dst):=gz (c.h e) hf hfl hi ht hs
theorem rS{s' S:St}{ρ:Im}(g:Tx (Sq ρ s'.m 9) s'.t S.t∧Jx ρ s'.m ρ S.m) (hk:Vs ρ N=true) (h3:(ρ.filterMap (·.1)).Nodup):@Yi ⟨.t ρ⟩ (Tells N s' S):=Tells.q ρ hk h3 g
theorem yrt(g:K .ret s):@Yi ⟨h⟩ (Tm.T P N .ret K s):=T.ret g
theorem yen{rs:List RV}{o:D}(g:lE (Xa s rs) s.m o):@Yi ⟨h⟩ (YA rs o .normal s):=BY g
theorem yf{S:Ed}{S':St}{ρ:Im}(hS:ed S s=S') (g:@Yi ⟨.t ρ⟩ (Tells N s S')) (g2:@Yi ⟨h⟩ (Tm.T P N a K S')):@Yi ⟨.f S ρ h⟩ (Tm.T P N a K s):=T.vA g g2
theorem gd{M:List M1}{ρ:Im}{q:Prop}(g:@Yi ⟨.d M ρ x⟩ q):@Yi ⟨.d M ρ x⟩ q:=g
theorem yd{M:List M1}{S':St}{ρ:Im}(hS:fd M s=S') (g:@Yi ⟨.t ρ⟩ (Tells N s S')) (g2:@Yi ⟨h⟩ (Tm.T P N a K S')):@Yi ⟨.d M ρ h⟩ (Tm.T P N a K s):=T.vA g g2
theorem yj[StbC N K] {X β:Type}{n:Nat}{S:X→Ed}{S':X→St}{o:Option X}{f:X→Option β}{r:β}(hS:∀z,ed (S z) s=S' z)
 (ha:∀z,o=some z→True→@Yi ⟨h⟩ (Tm.T P N a (KJ N K S' (.inl z:X⊕Unit)) s)) (hb:Wh n (∀z,f z=some r→@Yi ⟨x⟩ (Tm.T P N b K (S' z)))) (e:o.bind f=some r):@Yi ⟨.j n S h x⟩ (Tm.T P N (.seq a b) K s):=
 jn S' e (fun z hz=>ha z hz trivial) fun z _ hz=>hb.h z hz
theorem ye[StbC N K] {X R:Type}{n:Nat}{S:X→Ed}{S':X→St}{o:Option (X⊕R)}{f:X⊕R→Option R}{r:R}{p:Prop}(k:p) (hS:∀z,ed (S z) s=S' z)
 (ha:∀z,o=some z→Lk Sum.inr z r p→@Yi ⟨h⟩ (Tm.T P N a (KJ N K S' z) s)) (hb:Wh n (∀z,f (.inl z)=some r→@Yi ⟨x⟩ (Tm.T P N b K (S' z)))) (hf:∀v,f (.inr v)=some v:=by intros;rfl) (e:o.bind f=some r):@Yi ⟨.e n S h x⟩ (Tm.T P N (.seq a b) K s):=by
 obtain⟨z,h1,h2⟩:=rk e;refine T.join S' z (ha z h1 ⟨?_,k⟩) ?_
 ·rintro v rfl;rw[hf]at h2;exact Uaa h2
 ·rintro y rfl;exact hb.h y h2
theorem yl[StbC N K] {σ β R:Type}{n m id:Nat}{x0:σ}{step:σ→Option (Ex σ β R)}{S:σ→Ed}{B:β→Ed}{S':σ→St}{B':β→St}{f:β⊕R→Option R}{r:R}{p:Prop}{τ:Im}(k:p)
 (hS:∀z,ed (S z) s=S' z) (hB:∀z,ed (B z) s=B' z) (ht:@Yi ⟨.t τ⟩ (Tells N s (S' x0)))
 (ha:Lh n (∀q z,step q=some z→Lk Ex.ret z r p→@Yi ⟨h⟩ (Tm.T P N a (KL N id K S' B' z) (S' q)))) (hb:Wh m (∀z,f (.inl z)=some r→@Yi ⟨x⟩ (K .normal (B' z)))) (hf:∀v,f (.inr v)=some v:=by intros;rfl) (e:(ia step x0).bind f=some r) :
 @Yi ⟨.l n m S B τ h x⟩ (Tm.T P N (.block id (.loop a)) K s):=by
 obtain⟨y,h1,h2⟩:=rk e;refine lm h1 S' B' ht (fun q z hz hv=>ha.h q z hz ⟨?_,k⟩) ?_
 ·rintro v rfl;obtain rfl:=hv _ rfl;rw[hf]at h2;exact Uaa h2
 ·rintro b rfl;exact hb.h b h2
theorem yl'[StbC N K] {σ β R ρ:Type}{n m id:Nat}{x0:σ}{step:σ→Option (Ex σ β ρ)}{S:σ→Ed}{B:β→Ed}{S':σ→St}{B':β→St}{f:β⊕ρ→Option R}{r:R}{τ:Im}
 (hS:∀z,ed (S z) s=S' z) (hB:∀z,ed (B z) s=B' z) (ht:@Yi ⟨.t τ⟩ (Tells N s (S' x0)))
 (ha:Lh n (∀q z,step q=some z→True→@Yi ⟨h⟩ (Tm.T P N a (KL N id K S' B' z) (S' q)))) (hb:Wh m (∀z,f (.inl z)=some r→@Yi ⟨x⟩ (K .normal (B' z)))) (e:(ia step x0).bind f=some r) :
 @Yi ⟨.l n m S B τ h x⟩ (Tm.T P N (.block id (.loop a)) K s):=by
 obtain⟨y,h1,h2⟩:=rk e;refine lm h1 S' B' ht (fun q z hz _=>ha.h q z hz trivial) ?_;rintro b rfl;exact hb.h b h2
theorem yu[StbC N K] {σ R:Type}{n id:Nat}{x0:σ}{step:σ→Option (Ex σ Empty R)}{S:σ→Ed}{S':σ→St}{f:Empty⊕R→Option R}{r:R}{p:Prop}{τ:Im}(k:p)
 (hS:∀z,ed (S z) s=S' z) (ht:@Yi ⟨.t τ⟩ (Tells N s (S' x0)))
 (ha:Lh n (∀q z,step q=some z→Lk Ex.ret z r p→@Yi ⟨h⟩ (Tm.T P N a (KL N id K S' (fun q:Empty=>q.elim) z) (S' q)))) (hf:∀v,f (.inr v)=some v:=by intros;rfl) (e:(ia step x0).bind f=some r) :
 @Yi ⟨.u n S τ h⟩ (Tm.T P N (.block id (.loop a)) K s):=by
 obtain⟨y,h1,h2⟩:=rk e;refine lm h1 S' (fun q:Empty=>q.elim) ht (fun q z hz hv=>ha.h q z hz ⟨?_,k⟩) (fun q=>q.elim);rintro v rfl;obtain rfl:=hv _ rfl;rw[hf]at h2;exact Uaa h2
theorem vw{n:Nat}{p:Prop}(h:p):Wh n p:=⟨h⟩
theorem vl{n:Nat}{p:Prop}(h:p):Lh n p:=⟨h⟩
theorem yT:@Yi ⟨h⟩ True:=trivial
end
section
variable {α β:Type} {e:α→D} {l r:List α} {i:Int} {y:α} {b:Nat} {g:List α→Option β} {z:β}
theorem bA[Enc α e] (h:(app b l r).bind g=some z):∃x,(l.length+r.length)*b≤2 ^ 47∧l.map e++r.map e=x.map e∧g x=some z:=by
 obtain⟨x,h1,h2⟩:=rk h;exact⟨x,(CI (e:=e) h1).1,(CI h1).2,h2⟩
theorem bP[Enc α e] (h:(put l i y).bind g=some z):∃x,i.toNat<l.length∧(l.map e).set i.toNat (e y)=x.map e∧g x=some z:=by
 obtain⟨x,h1,h2⟩:=rk h;exact⟨x,(NO (e:=e) h1).1,(NO h1).2,h2⟩
theorem bM[Enc α e] {n c:Int}(h:(au b y n c).bind g=some z):∃x,0≤n∧n≤c∧c≤2 ^ 62∧c.toNat*b≤2 ^ 48∧maa n.toNat (e y)=x.map e∧g x=some z:=by
 obtain⟨x,h1,h2⟩:=rk h;obtain⟨h3,h4,h5,h6,h7⟩:=WD (e:=e) h1;exact⟨x,h3,h4,h5,h6,h7,h2⟩
theorem bZ(h:(uo l 0).bind g=some z):g []=some z:=by
 obtain⟨x,h1,h2⟩:=rk h;unfold uo at h1;split at h1
 ·rw[←Uaa h1]at h2;simpa using h2
 ·cases h1
theorem bH[Enc α e] (h:(uo l i).bind g=some z):∃x,0≤i∧i.toNat≤l.length∧(l.map e).take i.toNat=x.map e∧((l.map e).drop 0).take (i.toNat-0)=x.map e∧g x=some z:=by
 obtain⟨x,h1,h2⟩:=rk h;obtain⟨h3,h4,h5⟩:=wQ (e:=e) h1;exact⟨x,h3,h4,h5,(VC h1).2.2,h2⟩
theorem bL[Enc α e] (h:(Zx l i).bind g=some z):∃x,0≤i∧i.toNat≤l.length∧i.toNat+x.length≤l.length∧l.length-i.toNat=x.length∧((l.map e).take l.length).drop i.toNat=x.map e∧((l.map e).drop i.toNat).take x.length=x.map e∧g x=some z:=by
 obtain⟨x,h1,h2⟩:=rk h;obtain⟨h3,h4,h5,h6,h7⟩:=oW (e:=e) h1;exact⟨x,h3,h4,h5,h6,(MI h1).2.2,h7,h2⟩
theorem bQ{k:IntKind}{a c:Int}{g:Int→Option β}(h:(quo k a c).bind g=some z):∃x,¬c=0∧ca k (a.tdiv c)=x∧g x=some z:=by
 obtain⟨x,h1,h2⟩:=rk h;exact⟨x,(OU h1).1,(OU h1).2,h2⟩
theorem bR{k:IntKind}{a c:Int}{g:Int→Option β}(h:(rem k a c).bind g=some z):∃x,¬c=0∧a.tmod c=x∧g x=some z:=by
 obtain⟨x,h1,h2⟩:=rk h;exact⟨x,(CU h1).1,(CU h1).2,h2⟩
theorem bX{s:ByteArray}{i:Int}{g:Int→Option β}(h:(vr s i).bind g=some z):∃x,vr s i=some x∧g x=some z:=rk h
end
theorem cT{a b:Bool}(h:a=b):a=b:=h
end Go.Tm
namespace Go.Tm
variable {P:Program}
theorem DD{k:Nat}{ds:List D}{m:List Ent}{R:D→List Ent→Prop}{d2:D}{m2:List Ent}(h:CallT P k ds m R) (ht:∀d m',R d m'→Tells m.length ⟨[d],m'⟩ ⟨[d2],m2⟩):CallT P k ds m fun d m'=>d=d2∧m'=m2:=by
 refine⟨h.1,fun G w vs hv hi=>(h.2 G w vs hv hi).mono ?_⟩;rintro e w' ⟨v,d,m',G',rfl,hR,hvd,hi',hs⟩;have hr:Rel G' w' { tmps:=#[v],defers:=[] } ⟨[d],m'⟩:=⟨by simp only[VsRel];exact⟨v,[],rfl,hvd,rfl⟩,hi',rfl⟩;have hN:m.length=G.n:=hi.n.symm;have h0:=hs.RN (Nat.le_of_eq hN);obtain⟨G'',h3,h4⟩:=Um (ht d m' hR) h0.n hr;have hT:=h3.t;simp only[VsRel]at hT;obtain⟨u,us,he,h1,_⟩:=hT;injection he with he _;subst he;have h5:=h0.trans h4;rw[hN]at h5;exact⟨_,d2,m2,G'',rfl,⟨rfl,rfl⟩,h1,h3.inv,h5.toStep⟩
def EI(N:Nat) (rs:List RV) (S:St) (e:Exit) (s:St):Prop:=
 match e with
 |.normal=>∃S',Tells N s S'∧∃ds,Xa S' rs=some ds∧Tells N ⟨[Gk ds],S'.m⟩ S
 |.ret=>∃S',Tells N s S'∧∃ds,Xa S' rs=some ds∧Tells N ⟨[Gk ds],S'.m⟩ S
 |_=>False
def dE(N:Nat) (r:Option (List D)) (m:List Ent) (S:St):Prop:=∃ds,r=some ds∧Tells N ⟨[Gk ds],m⟩ S
theorem SV{N:Nat}{rs:List RV}{S s:St}(h:dE N (Xa s rs) s.m S):EI N rs S .ret s:=by
 obtain⟨ds,h1,h2⟩:=h;exact⟨s,.refl s,ds,h1,h2⟩
theorem lV{N:Nat}{rs:List RV}{S s:St}(h:dE N (Xa s rs) s.m S):EI N rs S .normal s:=by
 obtain⟨ds,h1,h2⟩:=h;exact⟨s,.refl s,ds,h1,h2⟩
theorem xB{N:Nat}{ds:List D}{m:List Ent}{S:St}:dE N (some ds) m S=Tells N ⟨[Gk ds],m⟩ S:=by simp[dE]
@[congr] theorem sV{N:Nat} {r r':Option (List D)} {m:List Ent} {S:St} (h:r=r'):dE N r m S=dE N r' m S:=by rw[h]
instance {N:Nat}{rs:List RV}{S:St}:StbC N (EI N rs S):=⟨by
 rintro s S' h ⟨S1,h1,h2⟩;exact⟨S1,h.trans h1,h2⟩⟩
theorem JD{k:Nat}(KF:Kf P k) {ds:List D}{m m2:List Ent}{d2:D}(w:Nat) (hw:KF.F.ntmps=ds.length+w) (h:T P m.length KF.F.code (EI m.length KF.F.results ⟨[d2],m2⟩) ⟨ds++Tm.ds w [],m⟩):CallT P k ds m fun d m'=>d=d2∧m'=m2:=by
 refine DD (R:=fun d m'=>Tells m.length ⟨[d],m'⟩ ⟨[d2],m2⟩) (Xh KF.ok KF.nm ?_) fun _ _ h=>h;rw[hw,Kac,←Pw];refine T.JM (h.mono ?_);have key:∀(e:Exit) (s:St),(∀s',Pu KF.F.results (fun d m'=>Tells m.length ⟨[d],m'⟩ ⟨[d2],m2⟩) e s' = ∃ds,Xa s' KF.F.results=some ds∧Tells m.length ⟨[Gk ds],s'.m⟩ ⟨[d2],m2⟩)→(∃S',Tells m.length s S'∧∃ds,Xa S' KF.F.results=some ds∧Tells m.length ⟨[Gk ds],S'.m⟩ ⟨[d2],m2⟩)→xE m.length (Pu KF.F.results fun d m'=>Tells m.length ⟨[d],m'⟩ ⟨[d2],m2⟩) e s:=by
  intro e s he ⟨S,h1,h2⟩ G w a hN hr;obtain⟨G',h3,h4⟩:=Um h1 hN hr;exact⟨S,G',by rw[he];exact h2,h3,h4⟩
 intro e s hs
 cases e with
 |normal=>exact key _ s (fun _=>rfl) hs
 |ret=>exact key _ s (fun _=>rfl) hs
 |_=>exact(hs:False).elim
theorem jI{a:Int}{k:IntKind}:xg .shr .u64 a k 1=some (.int .u64 (a.fdiv 2)):=by
 have h:((2 ^ (min (1:Int).toNat IntKind.u64.bits):Nat):Int)=2:=by decide
 simp only[xg,h];rfl
def mL:List Int:=[31,28,31,30,31,30,31,31,30,31,30,31]
def q8(n:Int):D:=.v (.int .i64 n)
theorem DU{s:St}:s.ev (.global 0)=.pt (.agg (mL.map q8)):=kaa rfl rfl
theorem BN{n:Int}:q8 n=.v (.int .i64 n):=kaa rfl rfl
def u9{α:Type}(l:List α):Option (List α):=some l
def S4{α:Type}(b:Nat) (z:α) (n:Int):Option (List α):=if 0<n∧n.toNat*b≤2 ^ 47 then some (maa n.toNat z)else none
def VN{α:Type}(l:List α) (lo:Int) (v:List α) (z:α):Option (List α):=if 0≤lo∧lo.toNat+v.length≤l.length then some (l.take lo.toNat++maa v.length z++l.drop (lo.toNat+v.length))else none
section
variable {α β:Type} {e:α→D} {l v:List α} {i:Int} {y:α} {b:Nat} {g:List α→Option β} {z:β}
theorem bK[Enc α e] (h:(S4 b y i).bind g=some z):∃x,0<i∧i.toNat*b≤2 ^ 47∧maa i.toNat (e y)=x.map e∧g x=some z:=by
 obtain⟨x,h1,h2⟩:=rk h;unfold S4 at h1;split at h1
 ·rename_i hc;obtain rfl:=Uaa h1;exact⟨_,hc.1,hc.2,List.map_replicate.symm,h2⟩
 ·cases h1
theorem bC[Enc α e] (h:(VN l i v y).bind g=some z):∃x,(l.map e).take i.toNat++maa v.length (e y)++(l.map e).drop (i.toNat+v.length)=x.map e∧g x=some z:=by
 obtain⟨x,h1,h2⟩:=rk h;unfold VN at h1;split at h1
 ·obtain rfl:=Uaa h1;exact⟨_,by simp[laf,maf],h2⟩
 ·cases h1
theorem bV[Enc α e] (h:(u9 l).bind g=some z):∃x,l.map e=x.map e∧g x=some z:=by
 obtain⟨x,h1,h2⟩:=rk h;obtain rfl:=Uaa h1;exact⟨l,rfl,h2⟩
theorem bG{g:Int→Option β}(h:(idx mL i).bind g=some z):∃x,0≤i∧mL[i.toNat]?=some x∧i.toNat<12∧g x=some z:=bO h
theorem zn:type_of% (And.intro (And.intro @jI @DU) (And.intro @BN @jad)):=And.intro (And.intro @jI @DU) (And.intro @BN @jad)
end
def ZS(P:Program) (k:Nat) (S:Nat) (l l':List D):Prop:=∀m id Ga,m[id]?=some (.live S Ga l)→CallT P k [.own id Ga] m fun d m'=>d=.own id (Ga+1)∧m'=m.set id (.live S (Ga+1) l')
section
open Go.Sort
theorem PO{k:FuncId}(hE:Enters P k) {zs ys:List Int}(hlen:ys.length≤zs.length)
 (h1:∀w b off cap,Holds (Value.int .i64) w b off zs.toArray→zs.length≤cap→Calls P k #[.slice (some ⟨b,off,none⟩) zs.length cap] w fun e w'=>e=.returned (.slice (some ⟨b,off,none⟩) ys.length cap)∧∃n xs,xs.length+ys.length=zs.length∧w'=grow (putRow (Value.int .i64) (Sort.ahead w n) b off (ys++xs).toArray) #[])
 (h0:∀w cap,Calls P k #[.slice none 0 cap] w fun e w'=>e=.returned (.slice none 0 cap)∧w'=w):ZS P k 1 (zs.map eI) (ys.map eI):=
 fun m id Ga hm=>oH hE hm hlen h1 h0
end
section
variable {h:Hi} {k id S Ga:Nat} {p:Prop} {pre post l l' ds:List D} {o:D} {m:List Ent} {f:D→List Ent→Prop}
theorem ycA[c:Con p (ZS P k S l l')] (e:p) (hf:@Yi ⟨h⟩ (f (.own id (Ga+1)) (m.set id (.live S (Ga+1) l')))) (hm:m[id]?=some (.live S Ga l)):@Yi ⟨h⟩ (qe P k [.own id Ga] m f):=Ub (c.h e m id Ga hm) hf
theorem ycf{d d':D}{q:List D} [c:Con p (Den P k ([d']++q) o)] (e:p) (hq:fa q=true) (hf:@Yi ⟨h⟩ (f o m)) (hs:Sq [] [] 9 d d'):@Yi ⟨h⟩ (qe P k (d::q) m f):=xL (c.h e) hq hf hs
theorem ycC[c:Con p (uA P k pre post S l o)] (e:p) (hf:@Yi ⟨h⟩ (f o (m.set id .gone))) (hds:ds=pre++.own id Ga::post) (hm:m[id]?=some (.live S Ga l)):@Yi ⟨h⟩ (qe P k ds m f):=zI (c.h e) hds hm hf
theorem ycW[c:Con p (xO P k pre post S l l' o)] (e:p) (hf:@Yi ⟨h⟩ (f o (m.set id (.live S Ga l')))) (hds:ds=pre++.own id Ga::post) (hm:m[id]?=some (.live S Ga l)):@Yi ⟨h⟩ (qe P k ds m f):=ZR (c.h e) hds hm hf
end
def St.hd(s:St):D:=s.t.headD .dead
theorem yi{X β:Type}{h x:Hi}{k:Nat}{KF:Kf P k}{n w:Nat}{S:X→Ed}{d2:X→D}{m2:X→List Ent}{m:List Ent}{ds:List D}{f:D→List Ent→Prop}{o:Option X}{g:X→Option β}{r:β}
 (hS:∀z,ed (S z) ⟨[.dead],m⟩=⟨[d2 z],m2 z⟩) (hw:KF.F.ntmps=ds.length+w)
 (ha:∀z,o=some z→True→@Yi ⟨h⟩ (T P m.length KF.F.code (EI m.length KF.F.results ⟨[d2 z],m2 z⟩) ⟨ds++Tm.ds w [],m⟩))
 (hb:Wh n (∀z,g z=some r→@Yi ⟨x⟩ (f (d2 z) (m2 z)))) (e:o.bind g=some r):@Yi ⟨.i KF n w S h x⟩ (qe P k ds m f):=by
 obtain⟨z,h1,h2⟩:=rk e;exact Ub (JD KF w hw (ha z h1 trivial)) (hb.h z h2)
theorem gi0{X:Type}{h x:Hi}{k j:Nat}{KF:Kf P j}{n w:Nat}{S:X→Ed}{m:List Ent}{ds:List D}{f:D→List Ent→Prop}(g:@Yi ⟨.i KF n w S h x⟩ (qe P k ds m f)):@Yi ⟨.i KF n w S h x⟩ (qe P k ds m f):=g
structure Ck (p q:Prop):Prop where
 h:p
 k:q
instance {N:Nat}{K:Exit→St→Prop}:StbC N (xE N K):=⟨by
 intro s S h k G w a hN hr;obtain⟨G1,h1,h2⟩:=Um h hN hr;obtain⟨s',G2,h3,h4,h5⟩:=k G1 w a h2.n h1;exact⟨s',G2,h3,h4,h2.trans h5⟩⟩
def cL(r:Option (List D)) (f:D→List Ent→Prop) (m:List Ent):Prop:=∃ds,r=some ds∧f (Gk ds) m
theorem yJ{ds:List D}{f:D→List Ent→Prop}{m:List Ent}:cL (some ds) f m=f (Gk ds) m:=by simp[cL]
@[congr] theorem kZ{r r':Option (List D)} {f:D→List Ent→Prop} {m:List Ent} (h:r=r'):cL r f m=cL r' f m:=by rw[h]
theorem yc{X β:Type}{h:Hi}{k:Nat}{KF:Kf P k}{w:Nat}{m:List Ent}{ds:List D}{f:D→List Ent→Prop}{o:Option X}{g:X→Option β}{r:β}{q:Prop}(k':q) (hw:KF.F.ntmps=ds.length+w)
 (ha:∀z,o=some z→Ck (g z=some r) q→@Yi ⟨h⟩ (T P m.length KF.F.code (xE m.length (Pu KF.F.results f)) ⟨ds++Tm.ds w [],m⟩)) (e:o.bind g=some r):@Yi ⟨.c KF w h⟩ (qe P k ds m f):=by
 obtain⟨z,h1,h2⟩:=rk e;refine Xh KF.ok KF.nm ?_;rw[hw,Kac,←Pw];exact T.JM (ha z h1 ⟨h2,k'⟩)
theorem gc0{h:Hi}{k j:Nat}{KF:Kf P j}{w:Nat}{m:List Ent}{ds:List D}{f:D→List Ent→Prop}(g:@Yi ⟨.c KF w h⟩ (qe P k ds m f)):@Yi ⟨.c KF w h⟩ (qe P k ds m f):=g
theorem gv{x:Hi}{p:Prop}(g:@Yi ⟨.v x⟩ p):@Yi ⟨.v x⟩ p:=g
theorem yvr{x:Hi}{M:Nat}{rs:List RV}{f:D→List Ent→Prop}{s:St}(g:@Yi ⟨x⟩ (cL (Xa s rs) f s.m)):@Yi ⟨.v x⟩ (xE M (Pu rs f) .ret s):=by
 obtain⟨ds,h1,h2⟩:=g;exact xE.of (show Pu rs f .ret s from⟨ds,h1,h2⟩)
theorem yvn{x:Hi}{M:Nat}{rs:List RV}{f:D→List Ent→Prop}{s:St}(g:@Yi ⟨x⟩ (cL (Xa s rs) f s.m)):@Yi ⟨.v x⟩ (xE M (Pu rs f) .normal s):=by
 obtain⟨ds,h1,h2⟩:=g;exact xE.of (show Pu rs f .normal s from⟨ds,h1,h2⟩)
theorem yno{α:Type}{r:α}{p:Prop}(h:none=some r):p:=nomatch h
theorem yrr{h:Hi}{K:Exit→St→Prop}{s:St}{N:Nat}(g:@Yi ⟨h⟩ (K .ret s)):@Yi ⟨h⟩ (Tm.T P N .ret K s):=T.ret g
theorem yrI{N:Nat}{h:Hi}{rs:List RV}{S s:St}(g:@Yi ⟨h⟩ (dE N (Xa s rs) s.m S)):@Yi ⟨h⟩ (EI N rs S .ret s):=SV g
theorem ynI{N:Nat}{h:Hi}{rs:List RV}{S s:St}(g:@Yi ⟨h⟩ (dE N (Xa s rs) s.m S)):@Yi ⟨h⟩ (EI N rs S .normal s):=lV g
class FrO (d:D):Prop where
 h:la d=true
instance {α:Type}{e:α→D} [Fr e] {x:α}:FrO (e x):=⟨Fr.h x⟩
instance {l:List D} [FrL l]:FrO (.tup l):=⟨FrL.h⟩
def dep:Nat→D→Bool
 |0,_=>false
 |k+1,.agg l=>l.all (dep k)
 |k+1,.tup l=>l.all (dep k)
 |_+1,.sl _ _=>true
 |k+1,.pt d=>dep k d
 |_+1,.v _=>true
 |_,_=>false
theorem Rs(m:List Ent):∀{k:Nat}{d:D},la d=true→dep k d=true→Vd k m d=d
 |0,_,_,h=>by simp[dep]at h
 |k+1,.agg l,h1,h2=>by
  simp only[dep,Raa]at h2;simp only[la,gh]at h1;simp only[Vd];congr 1;exact(nac fun d hd=>Rs m (h1 d hd) (h2 d hd)).trans (Vae _)
 |k+1,.tup l,h1,h2=>by
  simp only[dep,Raa]at h2;simp only[la,gh]at h1;simp only[Vd];congr 1;exact(nac fun d hd=>Rs m (h1 d hd) (h2 d hd)).trans (Vae _)
 |_+1,.sl _ l,h1,_=>by
  simp only[la]at h1;simp only[Vd,h1,if_true]
 |k+1,.pt d,h1,h2=>by
  simp only[dep]at h2;simp only[la]at h1;simp only[Vd,Rs m h1 h2]
 |_+1,.v _,_,_=>rfl
 |k+1,.own ..,_,h=>by simp[dep]at h
 |k+1,.view ..,_,h=>by simp[dep]at h
 |k+1,.ref ..,_,h=>by simp[dep]at h
 |k+1,.fn ..,_,h=>by simp[dep]at h
 |k+1,.mp ..,_,h=>by simp[dep]at h
 |k+1,.ifc ..,_,h=>by simp[dep]at h
 |k+1,.dead,_,h=>by simp[dep]at h
theorem Cu{id Ga:Nat}:∀{l:List D},fa l=true→l.map (kx id Ga)=l
 |[],_=>rfl
 |d::l,h=>by
  simp only[fa,paa]at h;rw[eab,Cu h.2];congr 1;have h1:=h.1;cases d<;>simp_all[kx,la]
def XK(P:Program) (k:Nat) (pre post:List D) (S:Nat) (l l':List D) (o:D):Prop:=fa pre=true∧fa post=true∧∀m id Ga,m[id]?=some (.live S Ga l)→CallT P k (pre++.ref id Ga 0 0::post) m fun d m'=>d=o∧m'=m.set id (.live S Ga l')
theorem XK.of{k:Nat}{pre post:List D}{S:Nat}{l l':List D}{o:D}(n:Nat) (K:Kf P k) (h:T P 1 K.F.code (EI 1 K.F.results ⟨[o],[.live S 0 l']⟩) ⟨(pre++.ref 0 0 0 0::post)++Tm.ds n [],[.live S 0 l]⟩)
 (hpre:fa pre=true:=by exact FrL.h) (hpost:fa post=true:=by exact FrL.h) (hl:fa l=true:=by exact FrL.h) (ho:la o=true:=by exact FrO.h) (hl':fa l'=true:=by exact FrL.h) (hd:dep 8 o=true:=by rfl) (hd':l'.all (dep 8)=true:=by rfl)
 (hn:K.F.ntmps=(pre++.ref 0 0 0 0::post).length+n:=by rfl):XK P k pre post S l l' o:=by
 refine⟨hpre,hpost,fun m id Ga hid=>?_⟩;have h1:=JD K n hn (m:=[.live S 0 l]) (m2:=[.live S 0 l']) (d2:=o) h;have e1:(pre++.ref id Ga 0 0::post).map (kx id Ga)=pre++.ref 0 0 0 0::post:=by
  rw[Cab,eab,Cu hpre,Cu hpost];simp[kx]
 refine(BO hid hl (m1:=[.live S 0 l']) rfl (by rw[e1];exact h1)).mono ?_;rintro d m' ⟨rfl,rfl⟩;refine⟨Rs _ ho hd,?_⟩;congr 2;rw[Raa]at hd';exact(nac fun d hd=>Rs _ (gh.1 hl' d hd) (hd' d hd)).trans (Vae _)
theorem ycE{pre post:List D}{S id Ga k:Nat}{l l' ds:List D}{o:D}{m:List Ent}{f:D→List Ent→Prop}{h:Hi}{p:Prop} [c:Con p (XK P k pre post S l l' o)] (e:p) (hf:@Yi ⟨h⟩ (f o (m.set id (.live S Ga l')))) (hds:ds=pre++.ref id Ga 0 0::post) (hm:m[id]?=some (.live S Ga l)):@Yi ⟨h⟩ (qe P k ds m f):=by
 subst hds;exact Ub ((c.h e).2.2 m id Ga hm) hf
theorem gce{h:Hi}{k:FuncId}{ds:List D}{ids:List Nat}{fp:List (List Nat)}{p:List Nat}{x:Nat}{f:D→Ent→Prop}{s:St}(g:@Yi ⟨h⟩ (sx P k ds ids fp p x f s)):@Yi ⟨h⟩ (sx P k ds ids fp p x f s):=g
theorem ywE{pre post:List D}{S Ga k:Nat}{l l' ds:List D}{o:D}{h:Hi}{q:Prop}{ids:List Nat}{fp:List (List Nat)}{p:List Nat}{x:Nat}{f:D→Ent→Prop}{s:St} [c:Con q (XK P k pre post S l l' o)] (e:q) (hf:@Yi ⟨h⟩ (f o (.live S Ga l')))
 (hds:ds=pre++.ref x Ga 0 0::post) (hm:s.m[x]?=some (.live S Ga l)) (hx:(ids.elem x&&Yu fp ids p)=true) (hi:ids=[x]):@Yi ⟨h⟩ (sx P k ds ids fp p x f s):=by
 subst hds;subst hi;have hlt:x<s.m.length:=(Caa.1 hm).1;refine⟨hx,o,_,⟨fun id hid=>by simp at hid;omega,fun m hmm=>?_⟩,hf⟩;exact(c.h e).2.2 m x Ga (by rw[hmm x (by simp)];exact hm)
theorem ydp{h:Hi}{N:Nat}{q:Nat}{l:List RI}{K:Exit→St→Prop}{s:St}{ps:List (List Nat)}{pl:List (Option Nat)}(hm:P.follows .mixedOrders=true) (hps:ps=Ls q) (hcl:xu pl l=true) (hpl:iu s.m pl=true) (g:@Yi ⟨h⟩ (Jf P pl ps q l (K .normal) [] s)):@Yi ⟨.g ps pl h⟩ (Tm.T P N (.draw q l) K s):=T.dp hm ps pl hps hcl hpl g
def oO(m:List Ent):D→D→Prop
 |.agg a,.agg b=>Tx (Lq m) a b
 |d,e=>Lq m d e
def pE(ids:List Nat) (ds:List D):Bool:=ds.all fun d=>match d with|.agg a=>wx ids a|d=>wx ids [d]
theorem NI{m m':List Ent}{ids:List Nat}(hm:∀id∈ids,m'[id]?=m[id]?):∀{a b:List D},Tx (oO m) a b→pE ids a=true→Sbs [] m' a b
 |[],[],_,_=>.nil
 |d::l,e::r,h,ht=>by
  simp only[pE,tac,paa]at ht;have ih:=NI hm h.2 (by simpa only[pE] using ht.2);have h1:=h.1;have ht1:=ht.1;unfold oO at h1;split at h1
  ·exact .agg (Ay hm h1 ht1) ih
  ·rename_i hne;have ht2:wx ids [d]=true:=by
    split at ht1
    ·rename_i a;simp[wx,tc]
    ·exact ht1
   exact Sbs.app (a:=[d]) (b:=[e]) (Ay hm ⟨h1,trivial⟩ ht2) ih
 |[],_::_,h,_=>h.elim
 |_::_,[],h,_=>h.elim
theorem dM{k:Nat}{ids:List Nat}{ds ds':List D}{o:D}{R:St→Prop}{s:St}{dst:Option Tmp}(h:Den P k ds' o) (hf:R (s.put dst o)) (hfl:flat o=true) (hi:(ids.all fun i=>decide (i<s.m.length))=true) (ht:pE ids ds=true) (hs:Tx (oO s.m) ds ds'):Er P k ds ids R s dst:=by
 refine⟨o,⟨fun id hid=>?_,fun m hm=>?_⟩,hf⟩
 ·rw[Raa]at hi;simpa using hi id hid
 ·exact Ou h (NI hm hs ht) hfl ⟨rfl,rfl⟩
theorem ylw{k:Nat}{h:Hi}{s:St}{p:Prop}{ids:List Nat}{ds ds':List D}{o:D}{R:St→Prop}{dst:Option Tmp} [c:Con p (Den P k ds' o)] (e:p) (hf:@Yi ⟨h⟩ (R (s.put dst o))) (hfl:flat o=true) (hi:(ids.all fun i=>decide (i<s.m.length))=true) (ht:pE ids ds=true) (hs:Tx (oO s.m) ds ds'):@Yi ⟨h⟩ (Er P k ds ids R s dst):=dM (c.h e) hf hfl hi ht hs
section
variable {m:List Ent} {S x y lo n s:Nat} {a b:List D} {e:D}
theorem zN:oO m (.agg a) (.agg b)=Tx (Lq m) a b:=kaa rfl rfl
theorem kN:oO m (.own x y) (.sl S b)=Lq m (.own x y) (.sl S b):=kaa rfl rfl
theorem fI:oO m (.view x y lo n) (.sl S b)=Lq m (.view x y lo n) (.sl S b):=kaa rfl rfl
theorem UN{z:Nat}:oO m (.ref x y z s) (.pt e)=Lq m (.ref x y z s) (.pt e):=kaa rfl rfl
theorem l8{z:Value}:oO m (.v z) e=Lq m (.v z) e:=by cases e<;>rfl
theorem cV{z:List D}:oO m (.sl S z) e=Lq m (.sl S z) e:=by cases e<;>rfl
theorem zU{z:D}:oO m (.pt z) e=Lq m (.pt z) e:=by cases e<;>rfl
theorem zw:type_of% (And.intro (And.intro (And.intro @zN @kN) (And.intro @fI @UN)) (And.intro (And.intro @l8 @cV) @zU)):=And.intro (And.intro (And.intro @zN @kN) (And.intro @fI @UN)) (And.intro (And.intro @l8 @cV) @zU)
end
end Go.Tm
