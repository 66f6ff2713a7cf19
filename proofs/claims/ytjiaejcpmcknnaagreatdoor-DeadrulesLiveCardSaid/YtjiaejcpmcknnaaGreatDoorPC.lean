/-
  The functions as plain partial functions, and plain lemmas about them: no condition.
-/
import Derived.Test.YtjiaejcpmcknnaaGreatDoorPB
import Derived.Test.YtjiaejcpmcknnaaGreatDoorPA
open Bool renaming and_eq_true->Sac,false_eq_true->Tac,not_true->Cae,true_and->Lad,true_eq_false->iad
open Classical renaming not_not->qad
open Int renaming eq_ofNat_of_zero_le->Wae,mul_le_mul->naf,mul_nonneg->Xag,natCast_one->Nag,reduceBEq->Wac,reduceEq->Uac,tdiv->sad,tmod->zad,toNat_natCast->zae
open List renaming any_eq_false->Bag,append_assoc->Tad,drop_eq_getElem_cons->Iad,ext_getElem->lae,filter_append->Zad,getElem?_append_right->yae,getElem?_eq_getElem->Lac,getElem_mem->Qac,getElem_set_self->hag,length_append->tad,length_cons->rad,length_filter_le->Fad,length_nil->cae,length_replicate->Jad,length_singleton->Gad,map_append->Qad,mem_of_getElem?->had,range->aad,replicate->Nac,replicate_succ->kae,replicate_succ'->nae,set_append_right->Eaf,take_add_one->yad
open Nat renaming add_sub_cancel->wag,le_refl->cad,mul_le_mul_right->uad,strongRecOn->faf,sub_self->Hae,succ_mul->Saf,zero_add->oae
open Option renaming any_some->eae,bind->Kac,bind_some->Jac,toList_some->iae
open Option.some renaming inj->nad,injEq->Aad
set_option linter.all false
set_option maxRecDepth 10000
set_option maxHeartbeats 1000000
namespace Go.Proofs.Dev
open Go Go.Tm
def neB(r:GDateRange):Bool:=decide (0<=r.From)&&(decide (r.To<=109573)&&decide (r.From<r.To))
def ends:List GDateRange->List Int
 |[]=>[]
 |r::l=>(if neB r=true then [r.From,r.To]else [])++ends l
theorem FL{α β:Type}{n:Nat}{l:List α}(hn:n=l.length) {step:List β×Int->Option (Ex (List β×Int) (List β) Unit)}(g:List α->List β) (x0:List β)
 (hgo:∀i (h:i<l.length),step (x0++g (l.take i),(i:Int))=some (.go (x0++g (l.take (i+1)),((i+1:Nat):Int)))) (hend:∀x,step (x,(n:Int))=some (.brk x)) (h0:g []=[]):da step (x0,0)=some (.inl (x0++g l)):=by
 subst hn;refine Lc (λi=>(x0++g (l.take i),(i:Int))) l.length _ (λi hi=>hgo i hi) ?_ (by simp[h0]);rw[hend,List.take_length]
def known(t1:Int) (f:GFact):Bool:=decide (f.Recorded<=t1)&&neB f.Valid
def jI(r:GDateRange) (d:Int):Bool:=yR r&&(decide (r.From<=d)&&decide (d<r.To))
theorem xr(r:GDateRange) (d:Int):Wd r d=some (jI r d):=by
 grind[Wd,jI,vp]
theorem wC(r:GDateRange) (d:Int):Nh r d=some (jI r d):=by
 grind[Nh,jI,cr]
def Ju(def_ date:Int) (r:GRule):Bool:=decide (r.Def=def_)&&jI r.Valid date
def pj(rules:List GRule) (q:GRule->Bool):Nat->List Int×List Int×List Int
 |0=>([],[],Nac rules.length 0)
 |i+1=>
  match rules[i]? with
  |none=>pj rules q i
  |some r=>
   let p:=pj rules q i
   let anc:=if 0<=r.Parent/\r.Parent<(i:Int)then(p.2.2[r.Parent.toNat]?).getD 0 else -1
   if q r=true then(p.1++[(i:Int)],p.2.1++[anc],(p.2.2.set i anc).set i (p.1.length:Int))else(p.1,p.2.1,p.2.2.set i anc)
theorem Yp{rules:List GRule}{q:GRule->Bool}:∀i,(pj rules q i).2.2.length=rules.length/\(pj rules q i).1.length<=i/\(pj rules q i).2.1.length=(pj rules q i).1.length
 |0=>by simp[pj]
 |i+1=>by
  obtain⟨h1,h2,h3⟩:=Yp (rules:=rules) (q:=q) i
  grind[pj]
theorem Og{rules:List GRule}{q:GRule->Bool}:∀i,∀x∈(pj rules q i).1,0<=x/\x<(rules.length:Int)/\x<(i:Int)
 |0=>by simp[pj]
 |i+1=>by
  have h:=Og (rules:=rules) (q:=q) i;unfold pj
  grind
theorem pq{rules:List GRule}(hr:rules.length<=1048576) {f:GRule->Option Bool}{q:GRule->Bool}(hf:∀r,f r=some (q r)):Cc rules f=some ((pj rules q rules.length).1,(pj rules q rules.length).2.1):=by
 unfold Cc;rw[Sw (by omega) (by omega),Jac];have hl:da (Ge rules f) (([]:List Int),([]:List Int),Nac rules.length 0,0)=some (.inl ((pj rules q rules.length).1,(pj rules q rules.length).2.1)):=by
  refine Lc (λi=>((pj rules q i).1,(pj rules q i).2.1,(pj rules q i).2.2,(i:Int))) rules.length _ (λi hi=>?_) (by grind[Ge]) rfl;obtain⟨h1,h2,h3⟩:=Yp (rules:=rules) (q:=q) i;unfold Ge;simp only[pj,Lac hi];rw[if_pos (by omega),Ba hi,Jac,wa (by omega),hf];generalize rules[i]=r;have hanc:(Kac (α:=Int) (Kac (α:=Bool) (if 0<=r.Parent then some (decide (r.Parent<(i:Int)))else some false) λj9=>if j9=true then(idx (pj rules q i).2.2 r.Parent).bind λx11=>some x11 else some (-1)) λj12=>some j12)=some (if 0<=r.Parent/\r.Parent<(i:Int)then((pj rules q i).2.2[r.Parent.toNat]?).getD 0 else -1):=by
   by_cases g1:0<=r.Parent
   .by_cases g2:r.Parent<(i:Int)
    .rw[if_pos g1,Jac,if_pos (by simp_all),if_pos ⟨g1,g2⟩,Si g1 (by omega),Lac (by omega)];rfl
    grind
   grind
  have hanc':(Kac (α:=Bool) (if 0<=r.Parent then some (decide (r.Parent<(i:Int)))else some false) λj9=>if j9=true then(idx (pj rules q i).2.2 r.Parent).bind λx11=>some x11 else some (-1))=some (if 0<=r.Parent/\r.Parent<(i:Int)then((pj rules q i).2.2[r.Parent.toNat]?).getD 0 else -1):=by
   simp_all
  rw[hanc',Jac];generalize (if 0<=r.Parent/\r.Parent<(i:Int)then((pj rules q i).2.2[r.Parent.toNat]?).getD 0 else -1)=anc;rw[Ba (i:=i) (by omega),Jac,Vy (by omega),Jac,Jac];cases q r
  .simp
  .rw[if_pos rfl,Ba (i:=i) (by simp_all),Jac,Vy (by simp_all),Jac,ui (by grind),Jac,ui (by grind),Jac];rfl
 simp_all
theorem aE{s:GScope}(hs:s.Rules.length<=1048576) (def_ date:Int):Fj s def_ date=some (pj s.Rules (Ju def_ date) s.Rules.length).1:=by
 unfold Fj;have hl:da (fk s def_ date) (([]:List Int),0)=some (.inl (pj s.Rules (Ju def_ date) s.Rules.length).1):=by
  refine Lc (λi=>((pj s.Rules (Ju def_ date) i).1,(i:Int))) s.Rules.length _ (λi hi=>?_) (by grind[fk]) rfl;obtain⟨h1,h2,h3⟩:=Yp (rules:=s.Rules) (q:=Ju def_ date) i;unfold fk;simp only[pj,Lac hi];rw[if_pos (by omega),Ba hi,Jac,wa (by omega),wC];generalize s.Rules[i]=r;have hq:(if r.Def=def_ then(some (jI r.Valid date)).bind λx6=>some x6 else some false)=some (Ju def_ date r):=by
   grind[Ju]
  rw[hq,Jac];cases Ju def_ date r
  .simp
  .rw[if_pos rfl,ui (by grind)];rfl
 simp_all
def upN(neg:Bool) (mode:Int) (q r d:Nat):Prop:=
 (mode=0/\neg=true/\0<r)\/(mode=1/\neg=false/\0<r)\/(mode=3/\0<r)\/(mode=4/\d<=r+r)\/(mode=5/\(d<r+r\/(d=r+r/\q % 2=1)))
instance (neg:Bool) (mode:Int) (q r d:Nat):Decidable (upN neg mode q r d):=by unfold upN;infer_instance
def upF(mode q r d:Int):Prop:=
 r≠0/\(mode=1\/(mode=2/\q<0)\/(mode=3/\0<=q)\/(mode=4/\(d-r<r\/(r=d-r/\0<=q)))\/(mode=5/\(d-r<r\/(r=d-r/\q % 2≠0))))
instance (mode q r d:Int):Decidable (upF mode q r d):=by unfold upF;infer_instance
theorem QO{σ β ρ:Type}{step:σ->Option (Ex σ β ρ)}(I:σ->Prop) (mu:σ->Nat) (Q:β->Prop) (h:∀s,I s->(∃s',step s=some (.go s')/\I s'/\mu s'<mu s)\/∃b,step s=some (.brk b)/\Q b) :
 ∀(n:Nat) (s:σ),mu s<=n->I s->∃b,da step s=some (.inl b)/\Q b
 |0,s,hn,hi=>by
  rcases h s hi with⟨s',-,-,h3⟩|⟨b,h1,h2⟩
  .omega
  .exact⟨b,Hd h1,h2⟩
 |n+1,s,hn,hi=>by
  rcases h s hi with⟨s',h1,h2,h3⟩|⟨b,h1,h2⟩
  .obtain⟨b,h4,h5⟩:=QO I mu Q h n s' (by omega) h2;exact⟨b,by rw[Mh h1];exact h4,h5⟩
  .exact⟨b,Hd h1,h2⟩
def inside(r:GDateRange) (x:Int):Bool:=decide (r.From<x)&&decide (x<r.To)
def Bf(v:GValue):Prop:=
 (v.Kind=1/\v.Enum=0/\0<=v.N/\v.N<=1)\/(v.Kind=2/\v.Enum=0/\-1000000000000<=v.N/\v.N<=1000000000000)\/(v.Kind=3/\v.Enum=0/\-1000000000000000<=v.N/\v.N<=1000000000000000)\/
 (v.Kind=4/\v.Enum=0/\-1000000000<=v.N/\v.N<=1000000000)\/(v.Kind=5/\v.Enum=0/\0<=v.N/\v.N<=109572)\/(v.Kind=6/\0<=v.Enum/\v.Enum<8/\0<=v.N/\v.N<16)
instance (v:GValue):Decidable (Bf v):=by unfold Bf;infer_instance
def Ls(v:GValue):Bool:=decide (Bf v)
theorem MT{a b:Prop} [Decidable a] [Decidable b]:(Kac (α:=Bool) (if a then some (decide b)else some false) λj=>some j)=some (decide (a/\b)):=by
 grind
theorem iteE{a:Prop} [Decidable a] {b:Bool}:(if¬a then some b else some false)=some (!decide a&&b):=by
 grind
theorem tf(v:GValue):Wb v=some (Ls v):=by
 obtain⟨K,E,N⟩:=v;unfold Wb Ls Bf;simp only[MT,iteE,Jac]
 grind[decide]
theorem Bf.range{v:GValue}(h:Bf v):-1000000000000000<=v.N/\v.N<=1000000000000000/\1<=v.Kind/\v.Kind<=6:=by unfold Bf at h;omega
def sP(n:GNode):Bool:=
 decide (n.N=0\/Ib n.Op=true)&&decide ((14<=n.Op/\n.Op<=16->0<=n.N/\n.N<=5)/\(n.Op=34->0<=n.N/\n.N % 8<=5)/\(n.Op=6->0<=n.N))
theorem sw_s{n:GNode}:(Kac (α:=Bool) (if n.Op=14 then some true else if n.Op=15 then some true else some (n.Op==16)) λj9=>
 if j9=true then Kac (α:=Bool) (if 0<=n.N then some (decide (n.N<=5))else some false) λj12=>some j12
 else if n.Op=34 then Kac (α:=Bool) (if 0<=n.N then some (decide ((zad n.N 8)<=5))else some false) λj15=>some j15
 else if n.Op=6 then some (decide (0<=n.N))else some true)=some (decide ((14<=n.Op/\n.Op<=16->0<=n.N/\n.N<=5)/\(n.Op=34->0<=n.N/\n.N % 8<=5)/\(n.Op=6->0<=n.N))):=by
 obtain⟨op,N⟩:=n;dsimp only;simp only[MT];by_cases h14:op=14
 .simp_all
 by_cases h15:op=15
 .simp_all
 by_cases h16:op=16
 .simp_all
 by_cases h34:op=34
 .subst h34;simp
  grind
 by_cases h6:op=6
 .simp_all
 simp[h14,h15,h16,h34,h6];omega
theorem FP{op:Int}(h:1<=op/\op<=39):0<=kb op:=by
 grind[kb]
theorem cC(n:GNode):Fl n=some (decide (1<=n.Op/\n.Op<=39)&&sP n):=by
 unfold Fl;rw[Oi,Jac,sw_s];by_cases h:1<=n.Op/\n.Op<=39
 .have:=FP h;rw[if_pos (by omega),ya h,decide_eq_true h,Lad];unfold sP;by_cases hN:n.N=0
  .grind
  .cases hu:Ib n.Op<;>simp[hN]
 grind[PB]
def mq(n:GNode) (env:GEnv):Bool:=
 if n.Op=7 then decide (0<=n.N/\n.N<(env.Inputs.length:Int))else
 if n.Op=8 then decide (0<=n.N/\n.N<(env.Defs.length:Int))&&!(((env.Defs[n.N.toNat]?).map (·.Kind)).getD 0==0)else
 if n.Op=33 then decide (0<=n.N/\n.N<(env.Tables.length:Int))else
 if n.Op=34 then decide (ca .i64 (sad n.N 8)<(env.Tables.length:Int))else
 if 36<=n.Op/\n.Op<=39 then decide (0<=n.N/\n.N<(env.MemberTypes.length:Int))else true
theorem w7{op:Int}{α:Type}{k:Bool->Option α}:(Kac (α:=Bool) (if op=36 then some true else if op=37 then some true else if op=38 then some true else some (op==39)) k)=k (decide (36<=op/\op<=39)):=by
 by_cases h1:op=36
 .simp_all
 by_cases h2:op=37
 .simp_all
 by_cases h3:op=38
 .simp_all
 by_cases h4:op=39
 .simp_all
 rw[if_neg h1,if_neg h2,if_neg h3,Jac]
 grind[decide_eq_false_iff_not]
theorem kz(n:GNode) (env:GEnv):Br n env=some (mq n env):=by
 unfold Br mq;simp only[w7,MT];split
 .rfl
 split
 .by_cases h0:0<=n.N
  .by_cases h1:n.N<(env.Defs.length:Int)
   .rw[if_pos h0,if_pos h1,Si h0 h1,Lac (by omega)];grind
   grind
  grind
 grind
noncomputable def Gg(n:GNode) (args:List GValue) (env:GEnv):Option (GValue×Int):=
 (Ea n args env).bind λa=>if a=false then some (⟨0,0,0⟩,8)else
 (nb n args env).bind λx=>if¬x.2=0 then some (⟨0,0,0⟩,x.2)else
 if Ls x.1=false then some (⟨0,0,0⟩,3)else some (x.1,0)
theorem nO{x:Option (GValue×Int)}:(x.bind λy=>some (y.1,y.2))=x:=by cases x<;>rfl
def Ks(v:GValue):GValue×Int:=if Ls v=true then(v,0)else(⟨0,0,0⟩,3)
theorem WX(v:GValue):(Ks v).2=0->Bf (Ks v).1:=by
 grind[Ks,Ls]
theorem tv{n:GNode}{args:List GValue}{env:GEnv}(h:Ea n args env=some true) {v:GValue}{e:Int}(hc:nb n args env=some (v,e)):Gg n args env=some (if e=0 then Ks v else(⟨0,0,0⟩,e)):=by
 grind[Gg,Ks]
theorem UE{n:GNode}{args:List GValue}{env:GEnv}(h:Ea n args env=some false):Gg n args env=some (⟨0,0,0⟩,8):=by
 grind[Gg]
theorem BJ{v:GValue}(h:Bf v):Ks v=(v,0):=if_pos (decide_eq_true h)
theorem Fw(k:Int):Vg k=some (decide (2<=k/\k<=4)):=by
 unfold Vg;by_cases h2:k=2
 .simp_all
 by_cases h3:k=3
 .simp_all
 rw[if_pos h2,if_pos h3,Jac]
 grind[decide_eq_false]
theorem Rk(b:Bool):Bg b=some ⟨1,0,if b=true then 1 else 0⟩:=by cases b<;>rfl
theorem XF(b:Bool):Ks ⟨1,0,if b=true then 1 else 0⟩=(⟨1,0,if b=true then 1 else 0⟩,0):=by cases b<;>exact BJ (by decide)
def LB(e:Option (GValue×Int)):Prop:=∃p,e=some p/\(p.2=0->Bf p.1)
theorem aH{n:GNode}{args:List GValue}{env:GEnv}(h:Ea n args env=some true) {v:GValue}{e:Int}(hc:nb n args env=some (v,e)):LB (Gg n args env):=by
 rw[tv h hc];by_cases h0:e=0
 .rw[if_pos h0];exact⟨_,rfl,WX v⟩
 .rw[if_neg h0];exact⟨_,rfl,λh2=>absurd h2 h0⟩
theorem gO{n:GNode}{args:List GValue}{env:GEnv}(h:Ea n args env=some false):LB (Gg n args env):=by
 rw[UE h];exact⟨_,rfl,λh2=>absurd h2 (by decide)⟩
theorem FZ{N:Int}{env:GEnv}:LB (Gg ⟨6,N⟩ [] env):=by
 exact aH (v:=⟨6,ca .i64 (sad N 16),zad N 16⟩) (e:=0) (by simp[Ea]) (by simp[nb])
theorem GZ{N:Int}{env:GEnv}(hf:mq ⟨7,N⟩ env=true):LB (Gg ⟨7,N⟩ [] env):=by
 simp only[mq,if_true,decide_eq_true_eq]at hf;have hi:idx env.Inputs N=some (env.Inputs[N.toNat]'(by omega)):=Si hf.1 hf.2;generalize env.Inputs[N.toNat]'(by omega)=v at hi;by_cases hv:Ls v=true
 .exact aH (v:=v) (e:=0) (by grind[Ea,tf]) (by grind[nb])
 grind[Ea,gO,tf]
theorem SV{N:Int}{a:GValue}{env:GEnv}(ha:Bf a):LB (Gg ⟨25,N⟩ [a] env):=by
 by_cases hn:a.Kind=1
 .exact aH (v:=⟨1,0,if(a.N==0)=true then 1 else 0⟩) (e:=0) (by grind[Ea,He,Bh]) (by simp only[nb,Uac,if_false,Jac,Wac,Tac,Bh,Ft,Rk,rad,cae,if_true,oae,Nag])
 grind[Ea,He,gO,Bh]
theorem tR{op N:Int}{env:GEnv}(h:1<=op/\op<=5):LB (Gg ⟨op,N⟩ [] env):=by
 refine aH (v:=⟨op,0,N⟩) (e:=0) ?_ ?_
 .have:op=1\/op=2\/op=3\/op=4\/op=5:=by omega
  rcases this with rfl|rfl|rfl|rfl|rfl<;>simp[Ea]
 .have:op=1\/op=2\/op=3\/op=4\/op=5:=by omega
  rcases this with rfl|rfl|rfl|rfl|rfl<;>simp[nb]
theorem K3{op N:Int}{a b:GValue}{env:GEnv}(h:(11<=op/\op<=24)\/(27<=op/\op<=30)):Ea ⟨op,N⟩ [a,b] env=Yd op a b:=by
 unfold Ea;dsimp only;rw[if_neg (by omega),if_neg (by omega),if_neg (by omega),if_neg (by omega),w7,decide_eq_false (by omega),if_neg (by simp),if_neg (by simp),if_pos (by simp),Bh,NF,Jac,Jac];simp
theorem vS{op N:Int}{a b:GValue}{env:GEnv}(h:(11<=op/\op<=24)\/(27<=op/\op<=30)):nb ⟨op,N⟩ [a,b] env=Ni ⟨op,N⟩ a b:=by
 unfold nb;dsimp only;have h5:(op==5)=false:=by grind
 rw[if_neg (by omega),if_neg (by omega),if_neg (by omega),if_neg (by omega),h5,Jac,if_neg (by simp),if_neg (by omega),if_neg (by omega),if_neg (by omega),if_neg (by omega),if_neg (by omega),w7,decide_eq_false (by omega),if_neg (by simp),if_neg (by omega),if_neg (by omega),if_neg (by simp),if_pos (by simp),Bh,NF,Jac,Jac,nO]
def vM(a b:GValue):Prop:=a.Kind=b.Kind/\a.Enum=b.Enum
instance (a b:GValue):Decidable (vM a b):=by unfold vM;infer_instance
theorem Yr(a b:GValue):Wg a b=some (decide (vM a b)):=by
 unfold Wg vM;by_cases h1:a.Kind=b.Kind<;>by_cases h2:a.Enum=b.Enum<;>simp[h1,h2]
theorem tO{a b:Prop} [Decidable a] [Decidable b]:(if decide a=true then some (decide b)else some false)=some (decide (a/\b)):=by
 grind
theorem LB.ite{c:Prop} [Decidable c] {n:GNode}{args:List GValue}{env:GEnv}{v:GValue}{e:Int}(hal:Ea n args env=some (decide c)) (hco:c->nb n args env=some (v,e)):LB (Gg n args env):=by
 by_cases h:c
 all_goals grind[aH,gO]
theorem PV{op N:Int}{a b:GValue}{env:GEnv}(hop:op=19\/op=20):LB (Gg ⟨op,N⟩ [a,b] env):=by
 have hal:Ea ⟨op,N⟩ [a,b] env=some (decide (vM a b)):=by
  rw[K3 (by omega)];rcases hop with rfl|rfl<;>simp only[Yd,Uac,if_true,if_false,Jac,Yr,Wac,Tac]
 rcases hop with rfl|rfl
 .refine LB.ite (v:=⟨1,0,if(a.N==b.N)=true then 1 else 0⟩) (e:=0) hal (λ_=>?_)
  simp_all[Ni,vS,Rk]
 .refine LB.ite (v:=⟨1,0,if(a.N !=b.N)=true then 1 else 0⟩) (e:=0) hal (λ_=>?_)
  simp_all[Ni,vS,Rk]
theorem QV{op N:Int}{a b:GValue}{env:GEnv}(hop:op=21\/op=22):LB (Gg ⟨op,N⟩ [a,b] env):=by
 have hk:(2<=a.Kind/\a.Kind<=5)↔((2<=a.Kind/\a.Kind<=4)\/a.Kind=5):=by omega
 have hal:Ea ⟨op,N⟩ [a,b] env=some (decide (vM a b/\2<=a.Kind/\a.Kind<=5)):=by
  rw[K3 (by omega)];rcases hop with rfl|rfl<;>simp only[Yd,Uac,if_true,if_false,Jac,Yr,Fw,tO,Wac,Tac,hk]
  all_goals grind
 rcases hop with rfl|rfl
 .refine LB.ite (v:=⟨1,0,if decide (a.N<b.N)=true then 1 else 0⟩) (e:=0) hal (λ_=>?_)
  simp_all[Ni,vS,Rk]
 .refine LB.ite (v:=⟨1,0,if decide (a.N<=b.N)=true then 1 else 0⟩) (e:=0) hal (λ_=>?_)
  simp_all[Ni,vS,Rk]
theorem onB_s(def_ date:Int) (r:GRule):Pc r def_ date=some (Ju def_ date r):=by
 grind[Pc,Ju,xr]
theorem Qn{s:GScope}(hs:s.Rules.length<=1048576) (def_ date:Int):td s def_ date=some (pj s.Rules (Ju def_ date) s.Rules.length).1:=by
 grind[td,pq,onB_s]
def DF(s:GScope) (l:List Int):List (List GNode):=(l.map λi=>((s.Rules[i.toNat]?).map (·.Guard)).getD []).filter λg=>decide (0<g.length)
theorem uL{s:GScope}{l:List Int}(hl:l.length<=1048576) (hm:∀x∈l,0<=x/\x<(s.Rules.length:Int)) {step:List (List GNode)×Int->Option (Ex (List (List GNode)×Int) (List (List GNode)) Unit)}
 (hstep:step=Lf s l):da step (([]:List (List GNode)),0)=some (.inl (DF s l)):=by
 subst hstep;have hlen:∀k,(DF s (l.take k)).length<=k:=λk=>by
  grind[DF]
 refine Lc (λi=>(DF s (l.take i),(i:Int))) l.length _ (λi hi=>?_) (by grind[Lf]) rfl;have hx:=hm _ (Qac hi);have:=hlen i;have ht:DF s (l.take (i+1))=DF s (l.take i)++(if 0<(s.Rules[l[i].toNat]'(by omega)).Guard.length then [(s.Rules[l[i].toNat]'(by omega)).Guard]else []):=by
  unfold DF;rw[yad,Lac hi,iae,Qad,Zad,List.map_singleton,Lac (l:=s.Rules) (by omega)]
  grind
 unfold Lf;simp only;rw[if_pos (by omega),Ba hi,Jac,Si hx.1 hx.2,Jac,wa (by omega),ht];by_cases h0:0<(s.Rules[l[i].toNat]'(by omega)).Guard.length
 .rw[if_pos (by omega),if_pos h0,ui (by grind)];rfl
 simp_all
noncomputable def zk(s:GScope) (def_ date:Int):List (List GNode):=DF s (pj s.Rules (Ju def_ date) s.Rules.length).1
theorem Ly{s:GScope}(hs:s.Rules.length<=1048576) (def_ date:Int):Gi s def_ date=some (zk s def_ date):=by
 unfold Gi;have hm:=Og (rules:=s.Rules) (q:=Ju def_ date) s.Rules.length;have hl:=(Yp (rules:=s.Rules) (q:=Ju def_ date) s.Rules.length).2.1;rw[Qn hs,Jac,uL (by omega) (λx hx=>⟨(hm x hx).1,(hm x hx).2.1⟩) rfl];rfl
theorem BG{s:GScope}(hs:s.Rules.length<=1048576) (def_ date:Int):Wp s def_ date=some (zk s def_ date):=by
 unfold Wp;have hm:=Og (rules:=s.Rules) (q:=Ju def_ date) s.Rules.length;have hl:=(Yp (rules:=s.Rules) (q:=Ju def_ date) s.Rules.length).2.1;rw[aE hs,Jac,uL (s:=s) (l:=(pj s.Rules (Ju def_ date) s.Rules.length).1) (step:=Bs s _) (by omega) (λx hx=>⟨(hm x hx).1,(hm x hx).2.1⟩) rfl];rfl
theorem tL{s:GScope}{def_ date:Int}{g:List GNode}(h:g∈zk s def_ date):∃r∈s.Rules,r.Guard=g:=by
 unfold zk DF at h
 grind
theorem BA(s:GScope) (def_ date:Int):(zk s def_ date).length<=s.Rules.length:=by
 grind[zk,DF,Yp]
theorem dJ{l:List GEnum}(hl:l.length<=1048576) (hm:∀x∈l,x.Members.length<=1099511627776):Mm l=some l:=by
 unfold Mm;have h1:da (aj l) (([]:List GEnum),0)=some (.inl l):=by
  refine Lc (λi=>(l.take i,(i:Int))) l.length _ (λi hi=>?_) (by grind[aj]) rfl;unfold aj Me;simp only;rw[if_pos (by omega),Ba hi,Jac,if_pos (hm _ (Qac hi)),Jac,ui (by grind),Jac,wa (by omega),yad,Lac hi];rfl
 simp_all
theorem rH{l:List GTable}(hl:l.length<=1048576) (hm:∀x∈l,x.Rows.length<=1099511627776):Hl l=some l:=by
 unfold Hl;have h1:da (Ih l) (([]:List GTable),0)=some (.inl l):=by
  refine Lc (λi=>(l.take i,(i:Int))) l.length _ (λi hi=>?_) (by grind[Ih]) rfl;unfold Ih Sd;simp only;rw[if_pos (by omega),Ba hi,Jac,if_pos (hm _ (Qac hi)),Jac,ui (by grind),Jac,wa (by omega),yad,Lac hi];rfl
 simp_all
theorem nP(l:GLaw) (s:GScope):(Oq l s).Enums=l.Enums/\(Oq l s).Tables=l.Tables:=by
 unfold Oq;grind
theorem OD{l:GLaw}(h:LawOk l) (hm:∀x∈l.Enums,x.Members.length<=1099511627776) (hr:∀x∈l.Tables,x.Rows.length<=1099511627776) {i:Nat}(hi:i<l.Scopes.length):Yn l (i:Int)=some (Oq l l.Scopes[i]):=by
 unfold Yn;obtain⟨e1,e2⟩:=nP l l.Scopes[i];rw[if_pos (by omega),Jac,if_neg (by simp_all),bm h hi,Jac,e1,dJ h.ne hm,Jac,e2,rH h.nt hr,Jac,←e1,←e2]
structure SkInv (i:Nat) (st sk:List Int):Prop where
 len:st.length=i
 pos:0<i->sk≠[]
 zero:i=0->sk=[]
 last:∀k,k+1=sk.length->st[i-1]?=sk[k]?
 chain:∀j,j+1<sk.length->∃a b:Nat,sk[j]?=some (a:Int)/\sk[j+1]?=some (b:Int)/\a<b/\st[b-1]?=some (a:Int)
 bound:∀j,j<sk.length->∃a:Nat,sk[j]?=some (a:Int)/\a<i
theorem VN{e:List GNode}(h:Wst e):∀i,i<=e.length->SkInv i (Re e i).1 (Re e i).2
 |0,_=>by
  refine⟨rfl,by omega,λ_=>rfl,?_,?_,?_⟩
  all_goals grind[Re]
 |i+1,hi=>by
  have ih:=VN h i (by omega);obtain⟨a1,a2,a3⟩:=h.ar (i:=i) (by omega);have hst:Re e (i+1)=((Re e i).1++[if 0<Pb e i then((Re e i).2[(Re e i).2.length-Pb e i]?).getD 0 else(i:Int)],(Re e i).2.take ((Re e i).2.length-Pb e i)++[if 0<Pb e i then((Re e i).2[(Re e i).2.length-Pb e i]?).getD 0 else(i:Int)]):=rfl;rw[hst];generalize (Re e i).1=st at ih⊢;generalize (Re e i).2=sk at ih a2⊢;generalize Pb e i=a at a2⊢;obtain⟨f,hf,hfi,hfl⟩:∃f:Nat,(if 0<a then(sk[sk.length-a]?).getD 0 else(i:Int))=(f:Int)/\f<=i/\(∀j,j+1=sk.length-a->∃b:Nat,sk[j]?=some (b:Int)/\b<f/\st[f-1]?=some (b:Int)):=by
   by_cases ha:0<a
   .obtain⟨f,h1,h2⟩:=ih.bound (sk.length-a) (by omega);refine⟨f,by simp_all,by omega,λj hj=>?_⟩;obtain⟨x,y,k1,k2,k3,k4⟩:=ih.chain j (by omega)
    grind
   .refine⟨i,by omega,by omega,λj hj=>?_⟩;obtain⟨x,k1,k2⟩:=ih.bound j (by omega);refine⟨x,k1,k2,?_⟩;rw[←k1];exact ih.last j (by omega)
  rw[hf];have hlen:(sk.take (sk.length-a)).length=sk.length-a:=by simp
  refine⟨by simp[ih.len],λ_=>by simp,λh=>by omega,?_,?_,?_⟩
  .intro k hk;simp only[tad,hlen,Gad]at hk;rw[wag,yae (by rw[ih.len];omega),ih.len,Hae,yae (by omega),hlen,show k-(sk.length-a)=0 by omega]
  .intro j hj;simp only[tad,hlen,Gad]at hj;by_cases hj2:j+1<sk.length-a
   .obtain⟨x,y,k1,k2,k3,k4⟩:=ih.chain j (by omega);obtain⟨y',q1,q2⟩:=ih.bound (j+1) (by omega);rw[k2]at q1;injection q1 with q1;refine⟨x,y,?_,?_,k3,?_⟩
    all_goals grind
   .obtain⟨x,k1,k2,k3⟩:=hfl j (by omega);refine⟨x,f,?_,?_,k2,?_⟩
    all_goals grind
  .intro j hj;simp only[tad,hlen,Gad]at hj;by_cases hj2:j<sk.length-a
   .obtain⟨x,k1,k2⟩:=ih.bound j (by omega)
    grind
   grind
theorem gK{e:List GNode}:∀{n i k:Nat},i<=n->k<i->(Re e n).1[k]?=(Re e i).1[k]?
 |0,i,k,h,hk=>by omega
 |n+1,i,k,h,hk=>by
  by_cases hin:i=n+1
  .simp_all
  .have:(Re e (n+1)).1=(Re e n).1++[if 0<(kb (va e n).Op).toNat then((Re e n).2[(Re e n).2.length-(kb (va e n).Op).toNat]?).getD 0 else(n:Int)]:=rfl;rw[this,List.getElem?_append_left (by grind[AB])];exact gK (by omega) hk
def nh(e:List GNode) (i j:Nat):Nat:=if j+1=Pb e i then i-1 else(((Re e i).2[(Re e i).2.length-Pb e i+j+1]?).getD 0).toNat-1
def Cy(e:List GNode) (i:Nat):List Int:=(aad (Pb e i)).map λj=>(nh e i j:Int)
theorem Yk{e:List GNode}(h:Wst e) {i:Nat}(hi:i<e.length) {j:Nat}(hj:j<Pb e i):nh e i j<i/\∃s:Nat,(Re e e.length).1[nh e i j]?=some (s:Int)/\(∀j',j'+1=j->nh e i j'+1=s):=by
 have ih:=VN h i (by omega);obtain⟨a1,a2,a3⟩:=h.ar hi;have hi0:0<i:=by
  rcases Nat.eq_zero_or_pos i with h0|h0
  .have:=ih.zero h0;simp_all
  omega
 have hlt:nh e i j<i/\∃s:Nat,(Re e i).1[nh e i j]?=some (s:Int)/\(Re e i).2[(Re e i).2.length-Pb e i+j]?=some (s:Int):=by
  unfold nh;generalize (Re e i).1=st at ih⊢;generalize (Re e i).2=sk at ih a2⊢;generalize Pb e i=a at a2 hj⊢;by_cases hja:j+1=a
  .rw[if_pos hja];obtain⟨x,k1,k2⟩:=ih.bound (sk.length-a+j) (by omega);exact⟨by omega,x,by rw[ih.last (sk.length-a+j) (by omega)];omega,k1⟩
  .rw[if_neg hja];obtain⟨x,y,k1,k2,k3,k4⟩:=ih.chain (sk.length-a+j) (by omega);obtain⟨y',q1,q2⟩:=ih.bound (sk.length-a+j+1) (by omega)
   grind
 obtain⟨h1,s,h2,h3⟩:=hlt;refine⟨h1,s,by grind[gK],λj' hj'=>?_⟩;subst hj';obtain⟨x,y,k1,k2,k3,k4⟩:=ih.chain ((Re e i).2.length-Pb e i+j') (by omega)
 grind[nh]
theorem VG{e:List GNode}(h:Wst e):∀{n k s:Nat},n<=e.length->(Re e n).1[k]?=some (s:Int)->s<=k
 |0,k,s,_,hs=>by grind[Re]
 |n+1,k,s,hn,hs=>by
  have hk:k<n+1:=by
   grind[AB]
  by_cases hkn:k=n
  .subst hkn;have ih:=VN h (k+1) hn;have hne:=ih.pos (by omega);obtain⟨q,hq⟩:∃q,q+1=(Re e (k+1)).2.length:=⟨(Re e (k+1)).2.length-1,by grind[List.length_pos_iff]⟩;have h1:=ih.last q hq;rw[wag,hs]at h1;obtain⟨x,k1,k2⟩:=ih.bound q (by omega)
   grind
  .rw[gK (i:=n) (by omega) (by omega)]at hs;exact VG h (by omega) hs
theorem Pq{e:List GNode}(h:Wst e):Jn e=((Re e e.length).1,0,0):=by
 have:=h.pos;have:=h.le;have:=h.one;unfold Jn;rw[if_neg (by omega),if_neg (by omega),Zb.2 h.err]
 simp_all
theorem NL{e:List GNode}(h:Wst e) {i:Nat}(hi:i<e.length) {step:List Int×Int×Int->Option (Ex (List Int×Int×Int) (List Int) Unit)}
 (hs:∀a b c,step (a,b,c)=if 0<=c then(idx a c).bind λ_=>(put a c b).bind λx9=>(idx (Re e e.length).1 b).bind λx10=>some (.go (x9,ca .i64 (x10-1),ca .i64 (c-1)))else some (.brk a)) :
 da step (Nac (Pb e i) 0,(i:Int)-1,(Pb e i:Int)-1)=some (.inl (Cy e i)):=by
 have hle:=h.le;obtain⟨a1,a2,a3⟩:=h.ar hi;have ha3:Pb e i<=12:=by have:=ep (e:=e) (i:=i) λj hj=>h.err j (by omega);omega
 refine Lc (λt=>(Nac (Pb e i-t) 0++(Cy e i).drop (Pb e i-t),(if t=0 then(i:Int)-1 else if t=Pb e i then(((Re e e.length).1[nh e i 0]?).getD 0)-1 else(nh e i (Pb e i-t-1):Int)),(Pb e i:Int)-1-t)) (Pb e i) _ (λt ht=>?_) ?_ ?_
 .obtain⟨j,hj⟩:∃j,Pb e i=t+j+1:=⟨Pb e i-t-1,by omega⟩;obtain⟨o1,s,o2,o3⟩:=Yk h hi (j:=j) (by omega);rw[hs];have hlast:(if t=0 then(i:Int)-1 else if t=Pb e i then(((Re e e.length).1[nh e i 0]?).getD 0)-1 else(nh e i (Pb e i-t-1):Int))=(nh e i j:Int):=by
   by_cases t0:t=0
   .grind[nh]
   grind
  rw[hlast,if_pos (by omega),show(Pb e i:Int)-1-t=((j:Nat):Int) by omega];have hL:(Cy e i).length=Pb e i:=by simp[Cy]
  rw[Ba (i:=j) (by grind),Jac,Vy (by grind),Jac];rw[wL,o2,Jac];have hset:(Nac (Pb e i-t) 0++(Cy e i).drop (Pb e i-t)).set j (nh e i j:Int)=Nac (Pb e i-(t+1)) 0++(Cy e i).drop (Pb e i-(t+1)):=by
   rw[show Pb e i-t=j+1 by omega,show Pb e i-(t+1)=j by omega,nae,Tad,Eaf _ _ (by simp),Jad,Hae]
   grind[Cy,Iad]
  have hlt:nh e i j<(Re e e.length).1.length:=by grind
  have hs:(s:Int)-1=(if t+1=0 then(i:Int)-1 else if t+1=Pb e i then(((Re e e.length).1[nh e i 0]?).getD 0)-1 else(nh e i (Pb e i-(t+1)-1):Int)):=by
   rw[if_neg (by omega)];by_cases j0:j=0
   all_goals grind
  have hsb:(0:Int)<=s/\(s:Int)<=100:=by
   have:=VG h (cad _) o2;omega
  rw[hset,wid (n:=(s:Int)-1) (by omega) (by omega),wid (n:=((j:Nat):Int)-1) (by omega) (by omega),hs];congr 4;omega
 .grind
 simp_all[Cy]
theorem xC{e:List GNode}(h:Wst e) {i:Nat}(hi:i<e.length):ck e (i:Int)=some (Cy e i):=by
 have hle:=h.le;obtain⟨a1,a2,a3⟩:=h.ar hi;have ha3:Pb e i<=12:=by have:=ep (e:=e) (i:=i) λj hj=>h.err j (by omega);omega
 have haI:kb (va e i).Op=(Pb e i:Int):=by grind[Pb]
 unfold ck;rw[Ou,Pq h,Jac];dsimp only;have hcond:(if(0:Int)=0 then if¬(i:Int)<0 then some (decide ((e.length:Int)<=(i:Int)))else some true else some true)=some false:=by
  simp_all
 rw[hcond];simp only[Jac,Tac,if_false];rw[Ba hi,Jac,qg hi,dv,Jac,haI,Sw (by omega) (by omega),Jac,wid (n:=(i:Int)-1) (by omega) (by omega),wid (n:=(Pb e i:Int)-1) (by omega) (by omega),NL h hi λa b c=>by grind[Tp]];rfl
theorem LD{e:List GNode}(h:Wst e) {i:Nat}(hi:i<e.length):Xn e (i:Int)=some (Cy e i):=by
 have hle:=h.le;obtain⟨a1,a2,a3⟩:=h.ar hi;have ha3:Pb e i<=12:=by have:=ep (e:=e) (i:=i) λj hj=>h.err j (by omega);omega
 have haI:kb (va e i).Op=(Pb e i:Int):=by grind[Pb]
 unfold Xn Ak;rw[vn,Pq h,Jac,Jac];dsimp only;rw[if_pos rfl,if_pos (by omega),Jac,if_neg (by simp_all),Ba hi,Jac,qg hi,Oi,Jac,haI,Sw (by omega) (by omega),Jac,Jad,wid (n:=(i:Int)-1) (by omega) (by omega),wid (n:=(Pb e i:Int)-1) (by omega) (by omega)];have hl:da (Sj ((Re e e.length).1,0)) (Nac (Pb e i) 0,(i:Int)-1,(Pb e i:Int)-1)=some (.inl (Cy e i)):=by
  refine Lc (λt=>(Nac (Pb e i-t) 0++(Cy e i).drop (Pb e i-t),(if t=0 then(i:Int)-1 else if t=Pb e i then(((Re e e.length).1[nh e i 0]?).getD 0)-1 else(nh e i (Pb e i-t-1):Int)),(Pb e i:Int)-1-t)) (Pb e i) _ (λt ht=>?_) ?_ ?_
  .obtain⟨j,hj⟩:∃j,Pb e i=t+j+1:=⟨Pb e i-t-1,by omega⟩;obtain⟨o1,s,o2,o3⟩:=Yk h hi (j:=j) (by omega);unfold Sj;dsimp only;have hlast:(if t=0 then(i:Int)-1 else if t=Pb e i then(((Re e e.length).1[nh e i 0]?).getD 0)-1 else(nh e i (Pb e i-t-1):Int))=(nh e i j:Int):=by
    by_cases t0:t=0
    .grind[nh]
    grind
   rw[hlast,if_pos (by omega),show(Pb e i:Int)-1-t=((j:Nat):Int) by omega];have hL:(Cy e i).length=Pb e i:=by simp[Cy]
   rw[Ba (i:=j) (by grind),Jac,Vy (by grind),Jac];rw[wL,o2,Jac];have hset:(Nac (Pb e i-t) 0++(Cy e i).drop (Pb e i-t)).set j (nh e i j:Int)=Nac (Pb e i-(t+1)) 0++(Cy e i).drop (Pb e i-(t+1)):=by
    rw[show Pb e i-t=j+1 by omega,show Pb e i-(t+1)=j by omega,nae,Tad,Eaf _ _ (by simp),Jad,Hae]
    grind[Cy,Iad]
   have hlt:nh e i j<(Re e e.length).1.length:=by grind
   have hs:(s:Int)-1=(if t+1=0 then(i:Int)-1 else if t+1=Pb e i then(((Re e e.length).1[nh e i 0]?).getD 0)-1 else(nh e i (Pb e i-(t+1)-1):Int)):=by
    rw[if_neg (by omega)];by_cases j0:j=0
    all_goals grind
   have hsb:(0:Int)<=s/\(s:Int)<=100:=by
    have:=VG h (cad _) o2;omega
   rw[hset,wid (n:=(s:Int)-1) (by omega) (by omega),wid (n:=((j:Nat):Int)-1) (by omega) (by omega),hs];congr 4;omega
  .grind[Sj]
  simp[Cy]
 simp_all
def PA(op:Int):Bool:=decide (2<=op)&&decide (op<=6)
def Ky(op:Int):Bool:=decide (19<=op)&&decide (op<=22)
theorem As(op:Int):Hj op=some (PA op):=by grind[Hj,PA]
theorem Xt(op:Int):lh op=some (Ky op):=by grind[lh,Ky]
theorem rp(n:GNode):wg n=some (PA n.Op):=by
 grind[wg,PA]
theorem ur(n:GNode):rf n=some (Ky n.Op):=by
 grind[rf,Ky]
def iy(e:List GNode) (i:Nat):Option (Int×GNode):=
 if Pb e i=2 then
  (
   if(va e (nh e i 0)).Op=7/\PA (va e (nh e i 1)).Op=true then some ((va e (nh e i 0)).N,va e (nh e i 1))
   else if(va e (nh e i 1)).Op=7/\PA (va e (nh e i 0)).Op=true then some ((va e (nh e i 1)).N,va e (nh e i 0))else none)
 else none
def AV:Option (Int×GNode)->Int×GNode×Bool
 |some v=>(v.1,v.2,true)
 |none=>(0,⟨0,0⟩,false)
def fK:Option (Int×GNode)->GNode×GNode×Bool
 |some v=>(⟨7,v.1⟩,v.2,true)
 |none=>(⟨0,0⟩,⟨0,0⟩,false)
theorem opL2{e:List GNode}{i:Nat}(h2:Pb e i=2):Cy e i=[(nh e i 0:Int),(nh e i 1:Int)]:=by
 unfold Cy;rw[h2];rfl
theorem qx{e:List GNode}(h:Wst e) {i:Nat}(hi:i<e.length):Uc e (i:Int)=some (AV (iy e i)):=by
 unfold Uc iy;rw[LD h hi,Jac];by_cases h2:Pb e i=2
 .have o1:=(Yk h hi (j:=0) (by omega)).1;have o2:=(Yk h hi (j:=1) (by omega)).1;rw[if_pos h2,opL2 h2,if_neg (by simp),Bh,NF,Jac,Ba (by omega),Jac,qg (by omega),Jac];rw[Ba (by omega),Jac,qg (by omega),rp,rp]
  grind[AV]
 .have hL:(Cy e i).length=Pb e i:=by simp[Cy]
  rw[if_neg h2,if_pos (by omega)];rfl
theorem Vx{e:List GNode}(h:Wst e) {i:Nat}(hi:i<e.length):Dn e (i:Int)=some (fK (if Ky (va e i).Op=true then iy e i else none)):=by
 unfold Dn iy;rw[xC h hi,Jac,Ba hi,Jac,qg hi,Xt,Jac];have hL:(Cy e i).length=Pb e i:=by simp[Cy]
 cases Ky (va e i).Op
 .rfl
 simp only[if_true,Jac];by_cases h2:Pb e i=2
 .have o1:=(Yk h hi (j:=0) (by omega)).1;have o2:=(Yk h hi (j:=1) (by omega)).1;rw[if_pos h2,if_neg (by simp_all),opL2 h2,Bh,NF,Jac,Ba (by omega),Jac,qg (by omega),Jac];rw[Ba (by omega),Jac,qg (by omega),As,As];generalize va e (nh e i 0)=a;generalize va e (nh e i 1)=b;obtain⟨ao,an⟩:=a;obtain⟨bo,bn⟩:=b;by_cases ha:ao=7
  .subst ha;cases hb:PA bo
   .by_cases hb7:bo=7
    .subst hb7;have:PA 7=false:=rfl
     grind[fK]
    grind[fK]
   grind[fK]
  grind[fK]
 .rw[if_neg h2,if_pos (by grind)];rfl
def No(e:List GNode) (i:Nat):Bool:=
 if Ky (va e i).Op=true then(iy e i).isSome else(va e i).Op==1 || (va e i).Op==23 || (va e i).Op==24 || (va e i).Op==25 || (va e i).Op==7 || PA (va e i).Op
noncomputable def Bk(e:List GNode) (s:GSignature):Bool:=
 decide ((uo e s).2.2=0)&&((uo e s).1.Kind==1&&(uo e s).1.Enum==0)&&(ff (λi=>if No e i=true then none else some false) e.length).isNone
theorem iH{e:List GNode}{s:GSignature}(h:(uo e s).2.2=0):Wst e:=by
 grind[uo,nK]
theorem fM{o:Option (Int×GNode)}:(AV o).2.2=o.isSome/\(fK o).2.2=o.isSome:=by cases o<;>exact⟨rfl,rfl⟩
theorem oL{f:Nat->Bool}{n:Nat}:(match (fc () (ff (λi=>if f i=true then none else some false) n):Unit⊕Bool)with|.inr v=>some v|.inl _=>some true)=some (ff (λi=>if f i=true then none else some false) n).isNone:=by
 cases h:ff (λi=>if f i=true then none else some false) n with
 |none=>rfl
 |some v=>
  obtain⟨k,-,h2,-⟩:=Sa.1 h;split at h2
  .grind
  .injection h2 with h2;subst h2;rfl
theorem ME{e:List GNode}(hN:∀n∈e,Xa n) (s:GSignature):qn e s=some (Bk e s):=by
 unfold qn Bk;rw[lz hN,Jac];by_cases h0:(uo e s).2.2=0
 .have hw:=iH h0;have hle:=hw.le;rw[if_pos h0,Jac,decide_eq_true h0];cases (uo e s).1.Kind==1&&(uo e s).1.Enum==0
  .rfl
  .simp only[Cae,Tac,if_false,Lad];have hl:da (El e) 0=some (fc () (ff (λi=>if No e i=true then none else some false) e.length)):=
    bc (λi=>(i:Int)) _ _ _ (λi hi _=>by
     unfold El No;rw[if_pos (by omega),Ba hi,Jac,qg hi,rp,ur,qx hw hi,wa (by omega)];simp only[Jac,fM.1];generalize (iy e i).isSome=c
     grind[Ky,mH,PA]) (λ_=>by grind[El])
   rw[hl];exact oL
 simp_all
theorem AG{e:List GNode}(hN:∀n∈e,Xa n) (s:GSignature):Cn e s=some (Bk e s):=by
 unfold Cn Bk;rw[Sx hN,Jac];by_cases h0:(uo e s).2.2=0
 .have hw:=iH h0;have hle:=hw.le;rw[if_pos h0,Jac,decide_eq_true h0];cases (uo e s).1.Kind==1&&(uo e s).1.Enum==0
  .rfl
  .simp only[Cae,Tac,if_false,Lad];have hl:da (Ql e) 0=some (fc () (ff (λi=>if No e i=true then none else some false) e.length)):=
    bc (λi=>(i:Int)) _ _ _ (λi hi _=>by
     unfold Ql No;rw[if_pos (by omega),Ba hi,Jac,qg hi,Xt,As,Vx hw hi,wa (by omega)];simp only[Jac,fM.2]
     grind[mH]) (λ_=>by grind[Ql])
   rw[hl];exact oL
 simp_all
theorem Eu{l:List Int}{p:Int->Bool}{i:Nat}(hi:i<l.length):(l.take (i+1)).filter p=(l.take i).filter p++(if p l[i]=true then [l[i]]else []):=by
 rw[yad,Lac hi,iae,Zad]
 grind
theorem cw{l:List Int}{p:Int->Bool}{i:Nat}:((l.take i).filter p).length<=i:=by
 grind
theorem tN{l:List Int}{n:Int}(h:pK l):l.filter (λx=>decide (x<n))++[n]++l.filter (λx=>decide (n<x))=Vj l n:=by
 refine GA ?_ (Hx h) λx=>?_
 .rw[Tad];refine List.pairwise_append.2 ⟨h.filter _,?_,λa ha b hb=>?_⟩
  all_goals grind
 .rw[Gv]
  grind
theorem Qt{l:List Int}{n:Int}(h:pK l) (hl:l.length<=1099511627776):bl l n=some (Vj l n):=by
 unfold bl;have h1:da (Jl l n) (([]:List Int),0)=some (.inl (l.filter λx=>decide (x<n))):=by
  refine Lc (λi=>((l.take i).filter λx=>decide (x<n),(i:Int))) l.length _ (λi hi=>?_) (by grind[Jl]) rfl;have:=cw (l:=l) (p:=λx=>decide (x<n)) (i:=i);unfold Jl;simp only;rw[if_pos (by omega),Ba hi,Jac,wa (by omega),Eu hi];by_cases hx:l[i]<n
  .rw[if_pos hx,if_pos (by simp_all),ui (by grind)];rfl
  grind
 rw[h1,Jac];simp only;have hlen:=Fad (λx=>decide (x<n)) l;rw[ui (by grind),Jac];have h2:da (Il l n) (l.filter (λx=>decide (x<n))++[n],0)=some (.inl (l.filter (λx=>decide (x<n))++[n]++l.filter λx=>decide (n<x))):=by
  refine Lc (λi=>(l.filter (λx=>decide (x<n))++[n]++(l.take i).filter λx=>decide (n<x),(i:Int))) l.length _ (λi hi=>?_) (by grind[Il]) (by simp);have:=cw (l:=l) (p:=λx=>decide (n<x)) (i:=i);unfold Il;simp only;rw[if_pos (by omega),Ba hi,Jac,wa (by omega),Eu hi];by_cases hx:n<l[i]
  .rw[if_pos hx,if_pos (by simp_all),ui (by grind)];simp
  grind
 grind[tN]
def cutAt(e:List GNode) (Qg:Int) (i:Nat):List Int:=
 if Ky (va e i).Op=true then
  match iy e i with
  |some v=>if v.1=Qg/\¬v.2.Op=6 then(if v.2.N<9223372036854775807 then [v.2.N,v.2.N+1]else [v.2.N])else []
  |none=>[]
 else []
theorem UP(e:List GNode) (Qg:Int) (i:Nat):(cutAt e Qg i).length<=2:=by
 grind[cutAt]
def Jk(e:List GNode) (Qg:Int):Nat->List Int
 |0=>[]
 |k+1=>Jk e Qg k++cutAt e Qg k
theorem Rv(e:List GNode) (Qg:Int):∀k,(Jk e Qg k).length<=2*k
 |0=>by simp[Jk]
 |k+1=>by
  have:=Rv e Qg k
  grind[Jk,UP]
def Ec(gs:List (List GNode)) (Qg:Int):Nat->List Int
 |0=>[]
 |k+1=>Ec gs Qg k++(match gs[k]? with|some e=>Jk e Qg e.length|none=>[])
theorem vr{gs:List (List GNode)}(hw:∀g∈gs,Wst g) (Qg:Int):∀k,(Ec gs Qg k).length<=96*k
 |0=>by simp[Ec]
 |k+1=>by
  have:=vr hw Qg k;simp only[Ec,tad];split
  .rename_i e he;have h1:=Rv e Qg e.length;have h2:=(hw e (had he)).le;omega
  grind
theorem BV{e:List GNode}(hN:∀n∈e,Xa n) (hw:Wst e) {i:Nat}(hi:i<e.length) {v:Int×GNode}(hv:iy e i=some v):Xa v.2:=by
 unfold iy at hv;split at hv
 .rename_i h2;have o1:=(Yk hw hi (j:=0) (by omega)).1;have o2:=(Yk hw hi (j:=1) (by omega)).1
  grind[fU]
 simp_all
theorem mA{gs:List (List GNode)}(hg:gs.length<=1048576) (hw:∀g∈gs,Wst g) (hN:∀g∈gs,∀n∈g,Xa n) (Qg:Int):Dl gs Qg=some (kd (Ec gs Qg gs.length)):=by
 unfold Dl;have hl:da (qh gs Qg) (([]:List Int),0)=some (.inl (Ec gs Qg gs.length)):=by
  refine Lc (λk=>(Ec gs Qg k,(k:Int))) gs.length _ (λk hk=>?_) (by grind[qh]) rfl;have hlen:=vr hw Qg k;have hwk:=hw _ (Qac hk);have hNk:=hN _ (Qac hk);have hle:=hwk.le;unfold qh Ak;simp only[Ec,Lac hk];rw[if_pos (by omega),Ba hk,Jac,wa (by omega)];generalize gs[k]=e at hwk hNk hle⊢;generalize Ec gs Qg k=a at hlen⊢;rw[vn,Pq hwk,Jac,Jac,if_neg (by simp)];have h2:da (ph Qg e) (a,0)=some (.inl (a++Jk e Qg e.length)):=by
   refine Lc (λi=>(a++Jk e Qg i,(i:Int))) e.length _ (λi hi=>?_) (by grind[ph]) (by simp[Jk]);have h3:=Rv e Qg i;have hsim:=λv (hv:iy e i=some v)=>BV hNk hwk hi hv;unfold ph;simp only[Jk,cutAt];rw[if_pos (by omega),Ba hi,Jac,qg hi,ur,Jac,qx hwk hi,Jac,wa (by omega)];cases Ky (va e i).Op
   .simp
   simp only[iad,if_false,if_true]
   cases hv:iy e i with
   |none=>simp[AV]
   |some v=>
    have hok:=hsim v hv;unfold Xa at hok;rw[show AV (some v)=(v.1,v.2,true)from rfl,if_pos rfl];dsimp only;by_cases hi2:v.1=Qg
    .by_cases h6:v.2.Op=6
     .simp_all
     .rw[if_pos hi2,if_pos ⟨hi2,h6⟩,Jac,if_neg (by simp_all),ui (by grind),Jac];by_cases hm:v.2.N<9223372036854775807
      .rw[if_pos hm,if_pos hm,wid (n:=v.2.N+1) (by omega) (by omega),ui (by grind)];simp
      grind
    simp_all
  simp_all
 have hlen:=vr hw Qg gs.length;rw[hl,Jac];simp only[lb,Pa];rw[if_pos (by omega),Jac,if_pos (by simp;omega),Jac,Uq]
theorem nI{a b:List Int}:kd (a++b)=b.foldl Vj (kd a):=by grind[kd]
theorem gB{gs:List (List GNode)}(hg:gs.length<=1048576) (hw:∀g∈gs,Wst g) (hN:∀g∈gs,∀n∈g,Xa n) (Qg:Int):Pl gs Qg=some (kd (Ec gs Qg gs.length)):=by
 unfold Pl;have hl:da (Yh gs Qg) (([]:List Int),0)=some (.inl (kd (Ec gs Qg gs.length))):=by
  refine Lc (λk=>(kd (Ec gs Qg k),(k:Int))) gs.length _ (λk hk=>?_) (by grind[Yh]) rfl;have hlen:=vr hw Qg k;have hwk:=hw _ (Qac hk);have hNk:=hN _ (Qac hk);have hle:=hwk.le;have h2:da (Xh gs Qg (k:Int)) (kd (Ec gs Qg k),0)=some (.inl (kd (Ec gs Qg k++Jk gs[k] Qg gs[k].length))):=by
   refine Lc (λi=>(kd (Ec gs Qg k++Jk gs[k] Qg i),(i:Int))) gs[k].length _ (λi hi=>?_) ?_ (by simp[Jk])
   .have h3:=Rv gs[k] Qg i;have hsim:=λv (hv:iy gs[k] i=some v)=>BV hNk hwk hi hv;unfold Xh;simp only;rw[Ba hk,Jac];simp only[Jk,cutAt];generalize gs[k]=e at hwk hNk hle hi h3 hsim⊢;rw[if_pos (by omega),Vx hwk hi,Jac,wa (by omega)];have hd:=dh (Ec gs Qg k++Jk e Qg i);have hdl:(kd (Ec gs Qg k++Jk e Qg i)).length<=1099511627776-10:=by
     grind
    rw[←Tad];generalize Ec gs Qg k++Jk e Qg i=a at hd hdl⊢;cases Ky (va e i).Op
    .simp[fK]
    simp only[iad,if_false,if_true]
    cases hv:iy e i with
    |none=>simp[fK]
    |some v=>
     have hok:=hsim v hv;unfold Xa at hok;rw[show fK (some v)=(⟨7,v.1⟩,v.2,true)from rfl,if_pos rfl];dsimp only;by_cases hi2:v.1=Qg
     .by_cases h6:v.2.Op=6
      .simp_all
      .have hl1:=OA (n:=v.2.N) (l:=kd a);rw[if_pos hi2,if_pos ⟨hi2,h6⟩,Jac,if_neg (by simp_all),Qt hd.1 (by omega),Jac];by_cases hm:v.2.N<9223372036854775807
       .rw[wid (n:=v.2.N+1) (by omega) (by omega),if_pos (by omega),if_pos hm,Qt (Hx hd.1) (by omega),nI];rfl
       .have hmax:v.2.N=9223372036854775807:=by omega
        have hw:ca .i64 (v.2.N+1) = -9223372036854775808:=by rw[hmax];rfl
        simp_all[nI]
     simp_all
   simp_all[Xh,Ba]
  unfold Yh;simp only[Ec,Lac hk];rw[if_pos (by omega),h2,Jac,wa (by omega)]
 simp_all
def jH(lo:Int):Nat->List Int
 |0=>[]
 |k+1=>jH lo k++[lo+k]
theorem Lv(lo:Int):∀k,(jH lo k).length=k
 |0=>rfl
 |k+1=>by simp[jH,Lv lo k]
theorem HI{p:Int×Int}(h:-1152921504606846976<=p.1/\p.2<=1152921504606846976) (hs:p.2-p.1<=1099511627776):da (Ld p) (([]:List Int),p.1)=some (.inl (jH p.1 (p.2-p.1+1).toNat)):=by
 refine Lc (λk=>(jH p.1 k,p.1+k)) (p.2-p.1+1).toNat _ (λk hk=>?_) ?_ (by simp[jH])
 .have:=Lv p.1 k;unfold Ld;simp only;rw[if_pos (by omega),ui (by grind),Jac,wid (by omega) (by omega)]
  grind[jH]
 grind[Ld]
noncomputable def HG(t:GType) (e:List GEnum) (cuts:List Int):List Int:=
 if(cg t e).2<(cg t e).1 then []
 else if t.Kind=1\/t.Kind=6 then jH (cg t e).1 ((cg t e).2-(cg t e).1+1).toNat
 else kd ([(cg t e).1]++cuts.filter λc=>decide ((cg t e).1<=c)&&decide (c<=(cg t e).2))
theorem QB{t:GType}{e:List GEnum}(he:∀x∈e,x.Members.length<=1048576):-1000000000000000<=(cg t e).1/\(cg t e).2<=1000000000000000/\((t.Kind=1\/t.Kind=6)->(cg t e).1=0/\(cg t e).2<=1048576)/\(ia t e=false->(cg t e).2<(cg t e).1)/\(ia t e=true->t.Kind≠6->(cg t e).1<(cg t e).2):=by
 have hb:=Um t e;unfold Ff at hb;rw[Oa,Jac]at hb
 cases hv:ia t e with
 |false=>
  grind
 |true=>
  rw[hv]at hb;simp only[iad,if_false]at hb;by_cases h1:t.Kind=1
  .grind
  by_cases h2:t.Kind=2
  .grind
  by_cases h3:t.Kind=3
  .grind
  by_cases h4:t.Kind=4
  .grind
  by_cases h5:t.Kind=5
  .grind
  .rw[if_neg h1,if_neg h2,if_neg h3,if_neg h4,if_neg h5]at hb;have h6:t.Kind=6:=by
    grind[ia]
   unfold ia at hv;rw[if_pos h6]at hv;simp at hv;have hm:=he _ (Qac (l:=e) (n:=t.Enum.toNat) (by omega));rw[Si hv.1 hv.2,Jac,wid (by omega) (by omega)]at hb
   grind
theorem qv{t:GType}{e:List GEnum}(he:∀x∈e,x.Members.length<=1048576) {cuts:List Int}(hc:cuts.length<=1099511627):cf t e cuts=some (HG t e cuts):=by
 obtain⟨b1,b2,b3,b4,b5⟩:=QB (t:=t) he;unfold cf HG;rw[Ka,Jac,bg,Jac]
 cases hv:ia t e with
 |false=>simp_all
 |true=>
  rw[if_neg (by simp)];have hk:(if¬t.Kind=1 then some (t.Kind==6)else some true)=some (decide (t.Kind=1\/t.Kind=6)):=by
   grind
  rw[hk,Jac];by_cases hk2:t.Kind=1\/t.Kind=6
  .obtain⟨q1,q2⟩:=b3 hk2;rw[if_pos (by simp_all),HI ⟨by omega,by omega⟩ (by omega),Jac,if_pos hk2];by_cases hlt:(cg t e).2<(cg t e).1
   .rw[if_pos hlt,show((cg t e).2-(cg t e).1+1).toNat=0 by omega];rfl
   grind
  .have hlt:=b5 hv (λh=>hk2 (.inr h));rw[if_neg (by simp_all),if_neg (by omega),if_neg hk2];have hl:da (Md cuts (cg t e)) ([(cg t e).1],0)=some (.inl ([(cg t e).1]++cuts.filter λc=>decide ((cg t e).1<=c)&&decide (c<=(cg t e).2))):=by
    refine Lc (λi=>([(cg t e).1]++(cuts.take i).filter (λc=>decide ((cg t e).1<=c)&&decide (c<=(cg t e).2)),(i:Int))) cuts.length _ (λi hi=>?_) (by grind[Md]) (by simp);have:=cw (l:=cuts) (p:=λc=>decide ((cg t e).1<=c)&&decide (c<=(cg t e).2)) (i:=i);unfold Md;simp only;rw[if_pos (by omega),Ba hi,Jac,wa (by omega),Eu hi];generalize cuts[i]=c;by_cases c1:(cg t e).1<=c
    .by_cases c2:c<=(cg t e).2
     .rw[if_pos c1,Jac,decide_eq_true c2,if_pos rfl,ui (by grind)];grind
     grind
    grind
   have:=Fad (λc=>decide ((cg t e).1<=c)&&decide (c<=(cg t e).2)) cuts;rw[hl,Jac];simp only[lb,Pa];rw[if_pos (by grind),Jac,if_pos (by simp;omega),Jac,Uq]
theorem Hv{t:GType}{e:List GEnum}(he:∀x∈e,x.Members.length<=1048576) {cuts:List Int}(hc:cuts.length<=1099511627):nf t e cuts=some (HG t e cuts):=by
 obtain⟨b1,b2,b3,b4,b5⟩:=QB (t:=t) he;unfold nf HG;rw[Um,Jac];by_cases hlt:(cg t e).2<(cg t e).1
 .simp_all
 rw[if_neg hlt,if_neg hlt];have hk:(if¬t.Kind=1 then some (t.Kind==6)else some true)=some (decide (t.Kind=1\/t.Kind=6)):=by
  grind
 rw[hk,Jac];by_cases hk2:t.Kind=1\/t.Kind=6
 .obtain⟨q1,q2⟩:=b3 hk2;have hr:da (Gj (cg t e)) (([]:List Int),(cg t e).1)=some (.inl (jH (cg t e).1 ((cg t e).2-(cg t e).1+1).toNat)):=HI ⟨by omega,by omega⟩ (by omega)
  simp_all
 .rw[if_neg (by simp_all),if_neg hk2];have hl:da (Od cuts (cg t e)) ([(cg t e).1],0)=some (.inl (kd ([(cg t e).1]++cuts.filter λc=>decide ((cg t e).1<=c)&&decide (c<=(cg t e).2)))):=by
   refine Lc (λi=>(kd ([(cg t e).1]++(cuts.take i).filter (λc=>decide ((cg t e).1<=c)&&decide (c<=(cg t e).2))),(i:Int))) cuts.length _ (λi hi=>?_) (by grind[Od]) (by simp[kd,Vj]);have h1:=cw (l:=cuts) (p:=λc=>decide ((cg t e).1<=c)&&decide (c<=(cg t e).2)) (i:=i);have h2:=dh ([(cg t e).1]++(cuts.take i).filter (λc=>decide ((cg t e).1<=c)&&decide (c<=(cg t e).2)));have h3:=h2.2.1;rw[tad,Gad]at h3;unfold Od;simp only;rw[if_pos (by omega),Ba hi,Jac,wa (by omega),Eu hi,←Tad];generalize cuts[i]=c;by_cases c1:(cg t e).1<=c
   .by_cases c2:c<=(cg t e).2
    .rw[if_pos c1,Jac,decide_eq_true c2,if_pos rfl,Jac,Qt h2.1 (by omega),decide_eq_true c1,if_pos (show(true&&true)=true from rfl),fF];rfl
    grind
   grind
  simp_all
def Gc(g:List (List Int)):Nat->Int
 |0=>1
 |k+1=>match g[k]? with|some l=>if Gc g k<=4096 then Gc g k*(l.length:Int)else Gc g k|none=>Gc g k
theorem uD{g:List (List Int)}(hl:∀l∈g,0<l.length/\l.length<=1099511627776):∀k,1<=Gc g k/\Gc g k<=4503599627370496
 |0=>by simp[Gc]
 |k+1=>by
  have ih:=uD hl k;unfold Gc;split
  .rename_i l h;have:=hl l (had h);split
   .rename_i hle;constructor
    .have:(1:Int)*1<=Gc g k*(l.length:Int):=naf ih.1 (by omega) (by omega) (by omega);omega
    .have:Gc g k*(l.length:Int)<=4096*1099511627776:=naf hle (by omega) (by omega) (by omega);omega
   omega
  omega
def tx(g:List (List Int)):Int:=if(g.any λl=>decide (l.length=0))=true then 0 else min (Gc g g.length) 4097
theorem any_zero{g:List (List Int)}(h:(g.any λl=>decide (l.length=0))=false) {l:List Int}(hl:l∈g):0<l.length:=by
 grind
theorem qH{g:List (List Int)}(hg:g.length<=1048576) (hl:∀l∈g,l.length<=1099511627776):tr g=some (tx g):=by
 unfold tr tx;have key:∀k,k<=g.length->(∀j (hj:j<k) (hjl:j<g.length),g[j].length≠0)->Gc g k<=4503599627370496/\1<=Gc g k:=by
  intro k hk hz
  induction k with
  |zero=>simp[Gc]
  |succ k ih=>
   have ih:=ih (by omega) λj hj hjl=>hz j (by omega) hjl;have hlt:k<g.length:=by omega
   have h1:=hl _ (Qac hlt);have h2:=hz k (by omega) hlt;unfold Gc;rw[Lac hlt];dsimp only;split
   .rename_i hle;constructor
    .have:Gc g k*(g[k].length:Int)<=4096*1099511627776:=naf hle (by omega) (by omega) (by omega);omega
    .have:(1:Int)*1<=Gc g k*(g[k].length:Int):=naf ih.2 (by omega) (by omega) (by omega);omega
   omega
 have h1:da (Dm g) (1,0)=some (fc (Gc g g.length) (ff (λi=>if(g[i]?.any λl=>decide (l.length=0))=true then some 0 else none) g.length)):=by
  refine bc (λk=>(Gc g k,(k:Int))) _ _ _ (λk hk hf=>?_) (λ_=>by grind[Dm]) rfl;obtain⟨p1,p2⟩:=key k (by omega) λj hj hjl hz=>by
   grind
  have hlk:=hl _ (Qac hk);unfold Dm;simp only[Gc,Lac hk,eae,decide_eq_true_eq];rw[if_pos (by omega),Ba hk,Jac,wa (by omega)];by_cases h0:g[k].length=0
  .rw[if_pos (by omega),if_pos h0];rfl
  .rw[if_neg (by omega),if_neg h0];by_cases hle:Gc g k<=4096
   .have:Gc g k*(g[k].length:Int)<=4096*1099511627776:=naf hle (by omega) (by omega) (by omega);have:(0:Int)<=Gc g k*(g[k].length:Int):=Xag (by omega) (by omega);rw[if_pos hle,if_pos hle,wid (by omega) (by omega)];rfl
   .rw[if_neg hle,if_neg hle];rfl
 rw[h1,←Jm (l:=g) (q:=λl=>decide (l.length=0)) (g:=λ_=>(0:Int)),Jac]
 cases hf:ff (λi=>if(g[i]?.any λl=>decide (l.length=0))=true then some (0:Int)else none) g.length with
 |none=>rfl
 |some v=>
  obtain⟨j,-,j2,-⟩:=Sa.1 hf;split at j2
  .injection j2 with j2;subst j2;rfl
  simp_all
theorem PH{g:List (List Int)}(hg:g.length<=1048576) (hl:∀l∈g,l.length<=1099511627776):Pr g=some (tx g):=by
 unfold Pr tx;have h1:da (Ym g) 0=some (fc () (ff (λi=>if(g[i]?.any λl=>decide (l.length=0))=true then some 0 else none) g.length)):=by
  refine bc (λk=>(k:Int)) _ _ _ (λk hk hf=>?_) (λ_=>by grind[Ym]) rfl;unfold Ym;simp only[Lac hk,eae,decide_eq_true_eq];rw[if_pos (by omega),Ba hk,Jac,wa (by omega)];by_cases h0:g[k].length=0
  .rw[if_pos (by omega),if_pos h0];rfl
  .rw[if_neg (by omega),if_neg h0];rfl
 have hany:=Jm (l:=g) (q:=λl=>decide (l.length=0)) (g:=λ_=>(0:Int));rw[h1,←hany,Jac]
 cases hf:ff (λi=>if(g[i]?.any λl=>decide (l.length=0))=true then some (0:Int)else none) g.length with
 |some v=>
  obtain⟨j,-,j2,-⟩:=Sa.1 hf;split at j2
  .injection j2 with j2;subst j2;rfl
  simp_all
 |none=>
  rw[hf]at hany;have hz:∀l∈g,0<l.length/\l.length<=1099511627776:=λl hlm=>⟨any_zero hany.symm hlm,hl l hlm⟩;have hb:=uD hz;have stay:∀n k,¬Gc g k<=4096->Gc g (k+n)=Gc g k:=by
   intro n k hk
   induction n with
   |zero=>rfl
   |succ n ih=>
    grind[Gc]
  have h2:da (Vh g) (1,0)=some (.inl (Gc g g.length)):=by
   have hstep:∀k,k<g.length->Gc g k<=4096->Vh g (Gc g k,(k:Int))=some (.go (Gc g (k+1),((k+1:Nat):Int))):=by
    intro k hk hle;have hlk:=hz _ (Qac hk);have:=hb k;have h3:Gc g k*(g[k].length:Int)<=4096*1099511627776:=naf hle (by omega) (by omega) (by omega);have h4:(0:Int)<=Gc g k*(g[k].length:Int):=Xag (by omega) (by omega);unfold Vh;simp only[Gc,Lac hk];rw[if_pos (by omega),Jac,if_pos (by simp_all),Ba hk,Jac,wa (by omega),wid (by omega) (by omega),if_pos hle]
   by_cases hall:∀k,k<g.length->Gc g k<=4096
   .exact Lc (λk=>(Gc g k,(k:Int))) g.length _ (λk hk=>hstep k hk (hall k hk)) (by grind[Vh]) rfl
   .obtain⟨k,k1,k2,k3⟩:∃k,k<g.length/\¬Gc g k<=4096/\∀j,j<k->Gc g j<=4096:=by
     have:∀n,(∃k,k<n/\¬Gc g k<=4096)->∃k,k<n/\¬Gc g k<=4096/\∀j,j<k->Gc g j<=4096:=by
      intro n
      induction n with
      |zero=>omega
      |succ n ih=>
       rintro⟨k,h,hk⟩;by_cases he:∃k,k<n/\¬Gc g k<=4096
       all_goals grind
     refine this _ ?_
     simp_all
    have he:Gc g g.length=Gc g k:=by
     have:=stay (g.length-k) k k2
     grind
    rw[he];refine Lc (λj=>(Gc g j,(j:Int))) k _ (λj hj=>hstep j (by omega) (k3 j hj)) ?_ rfl
    simp_all[Vh]
  grind[fc]
def Fo(gs:List (List GNode)) (i:Int):Bool:=gs.any λg=>g.any λn=>decide (n.Op=7/\n.N=i)
theorem ET{l:List GNode}(hl:l.length<=1048576) (i:Int):xc l (GNode.mk 7 i)=some (l.any λn=>decide (n.Op=7/\n.N=i)):=by
 have h:=rn (l:=l) (p:=λx=>some (decide (7=x.Op/\i=x.N))) (λn=>decide (n.Op=7/\n.N=i)) (λx _=>by grind) (by omega) (o:=da (zc l (GNode.mk 7 i)) 0) (by
  unfold zc;simp)
 exact h
theorem My{gs:List (List GNode)}(hg:gs.length<=1048576) (hl:∀g∈gs,g.length<=1048576) (i:Int):Ii gs i=some (Fo gs i):=by
 unfold Ii Fo;have h1:da (Mf gs i) 0=some (fc () (ff (λk=>if(gs[k]?.any λg=>g.any λn=>decide (n.Op=7/\n.N=i))=true then some true else none) gs.length)):=by
  refine bc (λk=>(k:Int)) _ _ _ (λk hk _=>?_) (λ_=>by grind[Mf]) rfl;unfold Mf;rw[if_pos (by omega),Ba hk,Jac,ET (hl _ (Qac hk)),Jac,wa (by omega),Lac hk,eae];cases gs[k].any λn=>decide (n.Op=7/\n.N=i)<;>rfl
 rw[h1,←Jm (g:=λ_=>true),Jac]
 cases hf:ff (λk=>if(gs[k]?.any λg=>g.any λn=>decide (n.Op=7/\n.N=i))=true then some true else none) gs.length with
 |none=>rfl
 |some v=>
  obtain⟨j,-,j2,-⟩:=Sa.1 hf;split at j2
  .injection j2 with j2;subst j2;rfl
  simp_all
theorem CG{gs:List (List GNode)}(hg:gs.length<=1048576) (hl:∀g∈gs,g.length<=1048576) (i:Int):Xp gs i=some (Fo gs i):=by
 unfold Xp Fo;have h1:da (Sl gs i) 0=some (fc () (ff (λk=>if(gs[k]?.any λg=>g.any λn=>decide (n.Op=7/\n.N=i))=true then some true else none) gs.length)):=by
  refine bc (λk=>(k:Int)) _ _ _ (λk hk _=>?_) (λ_=>by grind[Sl]) rfl;have hlk:=hl _ (Qac hk);have h2:da (Rl gs i (k:Int)) 0=some (fc () (ff (λj=>if(gs[k][j]?.any λn=>decide (n.Op=7/\n.N=i))=true then some (Ex.ret true)else none) gs[k].length)):=by
   refine bc (λj=>(j:Int)) _ _ _ (λj hj _=>?_) (λ_=>by simp_all[Rl,Ba]) rfl;unfold Rl;rw[Ba hk,Jac,if_pos (by omega),Ba hj,Jac,wa (by omega),Lac hj,eae]
   grind[mH]
  unfold Sl;rw[if_pos (by omega),h2,Jac,wa (by omega),Lac hk,eae,←Jm (g:=λ_=>(Ex.ret true:Ex Int Unit Bool))]
  cases hf:ff (λj=>if(gs[k][j]?.any λn=>decide (n.Op=7/\n.N=i))=true then some (Ex.ret true:Ex Int Unit Bool)else none) gs[k].length with
  |none=>rfl
  |some v=>
   obtain⟨j,-,j2,-⟩:=Sa.1 hf;split at j2
   .injection j2 with j2;subst j2;rfl
   simp_all
 rw[h1,←Jm (g:=λ_=>true),Jac]
 cases hf:ff (λk=>if(gs[k]?.any λg=>g.any λn=>decide (n.Op=7/\n.N=i))=true then some true else none) gs.length with
 |none=>rfl
 |some v=>
  obtain⟨j,-,j2,-⟩:=Sa.1 hf;split at j2
  .injection j2 with j2;subst j2;rfl
  simp_all
theorem fy{l:List Int}(hl:l.length<=1099511627776):qt l l=some true:=by
 unfold qt;rw[if_neg (by simp)];have:da (aq l l) 0=some (.inl ()):=Lc (λk=>(k:Int)) l.length () (λk hk=>by
  unfold aq;rw[if_pos (by omega),Jac,if_pos (by simp_all),Ba hk,Jac,Jac,if_neg (by simp),wa (by omega)]) (by grind[aq]) rfl
 simp_all
theorem Yz{l:List (List Int)}(hl:l.length<=1099511627776) (hm:∀x∈l,x.length<=1099511627776):oo l l=some true:=by
 unfold oo;rw[if_neg (by simp)];have:da (wk l l) 0=some (.inl ()):=Lc (λk=>(k:Int)) l.length () (λk hk=>by
  unfold wk;rw[if_pos (by omega),Jac,if_pos (by simp_all),Ba hk,Jac,Jac,fy (hm _ (Qac hk)),Jac,if_neg (by simp),wa (by omega)]) (by grind[wk]) rfl
 simp_all
def Fi:List (List Int)->List Int->List Int×Bool
 |l::g,a::r=>if(Fi g r).2=true then(a::(Fi g r).1,true)else if a+1<(l.length:Int)then((a+1)::(Fi g r).1,true)else(0::(Fi g r).1,false)
 |_,_=>([],false)
def mb:List (List Int)->List Int->Prop
 |l::g,a::r=>(0<=a/\a<(l.length:Int)/\l.length<=1099511627776)/\mb g r
 |[],[]=>True
 |_,_=>False
theorem mb.len:∀{g:List (List Int)}{a:List Int},mb g a->a.length=g.length
 |l::g,x::r,h=>by simp[mb.len h.2]
 |[],[],_=>rfl
theorem AK:∀{g:List (List Int)}{a:List Int},mb g a->(Fi g a).1.length=g.length
 |l::g,x::r,h=>by
  have:=AK h.2;unfold Fi;split<;>(try split)<;>simp[this]
 |[],[],_=>rfl
theorem UI:∀{g:List (List Int)}{a:List Int},mb g a->mb g (Fi g a).1
 |l::g,x::r,h=>by
  have:=UI h.2;have:=h.1;unfold Fi;split
  .exact⟨h.1,by omega⟩
  .split
   .exact⟨by omega,by omega⟩
   .exact⟨by omega,by omega⟩
 |[],[],_=>trivial
theorem BK{gr:List (List Int)}{step:List Int×Int->Option (Ex (List Int×Int) (List Int) (List Int×Bool))}
 (hs:∀a i,step (a,i)=if 0<=i then(idx a i).bind λx38=>(put a i (ca .i64 (x38+1))).bind λx39=>(idx x39 i).bind λx40=>(idx gr i).bind λx41=>if x40<(x41.length:Int)then some (.ret (x39,true))else(put x39 i 0).bind λx43=>some (.go (x43,ca .i64 (i-1)))else some (.brk a))
 (hl:gr.length<=1048576) :
 ∀{g:List (List Int)} {a:List Int},mb g a->∀{pg:List (List Int)} {pa:List Int},pa.length=pg.length->gr=pg++g->
  da step (pa++a,((pa.length+a.length:Nat):Int)-1)=if(Fi g a).2=true then some (.inr (pa++(Fi g a).1,true))else da step (pa++(Fi g a).1,(pa.length:Int)-1)
 |l::g,x::r,h,pg,pa,hp,hg=>by
  have hgl:pg.length+g.length+1=gr.length:=by grind
  have hlen:=AK h.2;have ih:=BK hs hl h.2 (pg:=pg++[l]) (pa:=pa++[x]) (by grind) (by grind);have e1:pa++x::r=(pa++[x])++r:=by simp
  have e2:pa.length+(x::r).length=(pa++[x]).length+r.length:=by grind
  rw[e1,e2,ih];have hx:=h.1
  conv=>rhs;unfold Fi
  by_cases hb:(Fi g r).2=true
  .grind
  rw[if_neg hb,if_neg hb];have e3:(((pa++[x]).length:Nat):Int)-1=((pa.length:Nat):Int):=by simp
  have e4:pa++[x]++(Fi g r).1=pa++x::(Fi g r).1:=by simp
  rw[e3,e4];generalize (Fi g r).1=q at hlen⊢;have hi:pa.length<(pa++x::q).length:=by simp
  have hgi:gr[pa.length]?=some l:=by grind
  have st:step (pa++x::q,(pa.length:Int))=if x+1<(l.length:Int)then some (.ret (pa++(x+1)::q,true))else some (.go (pa++0::q,(pa.length:Int)-1)):=by
   rw[hs,if_pos (by omega),Ba hi,Jac,Vy hi,Jac,List.getElem_append_right (cad _),Ba (by simp),Jac,wL,hgi,Jac];simp only[Hae,List.getElem_cons_zero,hag]
   grind[wid,Vy]
  by_cases hc:x+1<(l.length:Int)
  .rw[if_pos hc]at st;rw[By st,if_pos hc,if_pos rfl]
  .rw[if_neg hc]at st;rw[Mh st,if_neg hc,if_neg (by simp)]
 |[],[],_,pg,pa,hp,hg=>by
  grind[Fi]
theorem mO{gr:List (List Int)}{step:List Int×Int->Option (Ex (List Int×Int) (List Int) (List Int×Bool))}
 (hs:∀a i,step (a,i)=if 0<=i then(idx a i).bind λx38=>(put a i (ca .i64 (x38+1))).bind λx39=>(idx x39 i).bind λx40=>(idx gr i).bind λx41=>if x40<(x41.length:Int)then some (.ret (x39,true))else(put x39 i 0).bind λx43=>some (.go (x43,ca .i64 (i-1)))else some (.brk a))
 (hl:gr.length<=1048576) {a:List Int} (ha:mb gr a) :
 ((da step (a,ca .i64 ((a.length:Int)-1))).bind λy=>match y with|.inr v=>some v|.inl b46=>some (b46,false))=some (Fi gr a):=by
 have h:=BK hs hl ha (pg:=[]) (pa:=[]) rfl rfl;have hlen:=ha.len;simp only[List.nil_append,cae,oae]at h;rw[wid (by omega) (by omega),h];by_cases hb:(Fi gr a).2=true
 .grind
 .have st:step ((Fi gr a).1,((0:Nat):Int)-1)=some (.brk (Fi gr a).1):=by simp_all
  rw[if_neg hb,Hd st,Jac]
  grind
def Xe:List (List Int)->Nat
 |[]=>1
 |l::g=>l.length*Xe g
def rk:List (List Int)->List Int->Nat
 |l::g,a::r=>a.toNat*Xe g+rk g r
 |_,_=>0
theorem VJ{l a:List Int}{g:List (List Int)}{x:Int}:rk (l::g) (x::a)=x.toNat*Xe g+rk g a:=rfl
theorem OE{l:List Int}{g:List (List Int)}:Xe (l::g)=l.length*Xe g:=rfl
theorem AD:∀{g:List (List Int)}{a:List Int},mb g a->rk g a<Xe g
 |l::g,x::r,h=>by
  have ih:=AD h.2;have hx:=h.1;have:(x.toNat+1)*Xe g<=l.length*Xe g:=uad _ (by omega)
  grind[VJ,OE]
 |[],[],_=>by simp[rk,Xe]
theorem MN:∀{g:List (List Int)}{a b:List Int},mb g a->mb g b->rk g a=rk g b->a=b
 |l::g,x::r,y::q,h,k,e=>by
  have h1:=AD h.2;have k1:=AD k.2;have hx:=h.1;have ky:=k.1;unfold rk at e;have hxy:x.toNat=y.toNat:=by
   rcases Nat.lt_trichotomy x.toNat y.toNat with c|c|c
   .have:(x.toNat+1)*Xe g<=y.toNat*Xe g:=uad _ c
    grind
   .exact c
   .have:(y.toNat+1)*Xe g<=x.toNat*Xe g:=uad _ c
    grind
  rw[hxy]at e;rw[show x=y by omega,MN h.2 k.2 (by omega)]
 |[],[],[],_,_,_=>rfl
theorem WJ:∀{g:List (List Int)}{a:List Int},mb g a->((Fi g a).2=true->rk g (Fi g a).1=rk g a+1)/\((Fi g a).2=false->rk g a+1=Xe g/\rk g (Fi g a).1=0)
 |l::g,x::r,h=>by
  have ih:=WJ h.2;have hx:=h.1;unfold Fi;by_cases hb:(Fi g r).2=true
  .grind[rk]
  .have:=ih.2 (Bool.eq_false_iff.2 hb);rw[if_neg hb];by_cases hc:x+1<(l.length:Int)
   .rw[if_pos hc];refine⟨λ_=>?_,λh=>by cases h⟩;unfold rk;rw[show(x+1).toNat=x.toNat+1 by omega,Saf];omega
   .rw[if_neg hc];refine⟨λh=>(by cases h),λ_=>?_⟩;have:l.length=x.toNat+1:=by omega
    rw[VJ,VJ,OE,this,Saf,Int.toNat_zero,Nat.zero_mul];omega
 |[],[],_=>by grind[Fi,rk,Xe]
theorem rO:∀{g:List (List Int)},(∀l∈g,0<l.length/\l.length<=1099511627776)->mb g (Nac g.length 0)/\rk g (Nac g.length 0)=0
 |[],_=>⟨trivial,rfl⟩
 |l::g,h=>by
  have ih:=rO (g:=g) λx hx=>h x (by grind);have:=h l (by simp);rw[rad,kae];refine⟨⟨by omega,ih.1⟩,?_⟩
  grind[rk]
theorem PE{σ β ρ:Type}{g:List (List Int)}{step:σ×List Int×Bool->Option (Ex (σ×List Int×Bool) β ρ)}(I:Nat->σ->Prop) (Done:σ->List Int->Prop) (out:σ->β)
 (hstep:∀s c,mb g c->I (rk g c) s->∃s',step (s,c,true)=some (.go (s',Fi g c))/\I (rk g c+1) s'/\Done s' c/\∀d,Done s d->Done s' d)
 (hend:∀s c,step (s,c,false)=some (.brk (out s)))
 {s0:σ} {c0:List Int} (h0:mb g c0) (hr:rk g c0=0) (hI:I 0 s0) :
 ∃s,da step (s0,c0,true)=some (.inl (out s))/\I (Xe g) s/\∀c,mb g c->Done s c:=by
 have key:∀(n:Nat) (s:σ) (c:List Int),Xe g-rk g c<=n->mb g c->I (rk g c) s->(∀d,mb g d->rk g d<rk g c->Done s d)->∃s',da step (s,c,true)=some (.inl (out s'))/\I (Xe g) s'/\∀d,mb g d->Done s' d:=by
  intro n
  induction n with
  |zero=>intro s c hn hc;have:=AD hc;omega
  |succ n ih=>
   intro s c hn hc hi hd;obtain⟨s',h1,h2,h3,h4⟩:=hstep s c hc hi;have hn2:=WJ hc;have ok:=UI hc;have all:∀d,mb g d->rk g d<rk g c+1->Done s' d:=λd hd' hlt=>by
    grind[MN]
   rw[Mh h1]
   cases hb:(Fi g c).2 with
   |true=>
    grind
   |false=>
    have e:=(hn2.2 hb).1;rw[show Fi g c=((Fi g c).1,false) by grind,Hd (hend s' _)];exact⟨s',rfl,by simp_all,λd hd'=>all d hd' (by simp_all[AD])⟩
 exact key _ s0 c0 (cad _) h0 (by simp_all) λd _ hlt=>by omega
theorem EM(g:List (List Int)) (l:List Int):Xe (g++[l])=Xe g*l.length:=by
 induction g with
 |nil=>simp[Xe]
 |cons a g ih=>grind[Xe]
theorem nG{g:List (List Int)}(hl:∀l∈g,0<l.length):∀k,k<=g.length->Gc g k=(Xe (g.take k):Int)\/4096<Gc g k
 |0,_=>.inl (by simp[Gc,Xe])
 |k+1,hk=>by
  have ih:=nG hl k (by omega);have hkl:k<g.length:=by omega
  have:=hl _ (Qac hkl);unfold Gc;rw[Lac hkl];dsimp only;rw[yad,Lac hkl,iae,EM]
  grind
theorem lS{g:List (List Int)}(hl:∀l∈g,0<l.length) (h:tx g<=4096):Xe g<=4096:=by
 have h0:(g.any λl=>decide (l.length=0))=false:=by
  grind
 unfold tx at h;rw[h0,if_neg (by simp)]at h;rcases nG hl g.length (cad _)with e|e
 all_goals grind
theorem Gw{e:List GNode}(h:Wst e) {i:Nat}(hi:i<e.length) {env:GEnv}:pe ⟨e,(Re e e.length).1,env⟩ (i:Int)=some (Cy e i):=by
 have hle:=h.le;obtain⟨a1,a2,a3⟩:=h.ar hi;have ha3:Pb e i<=12:=by have:=ep (e:=e) (i:=i) λj hj=>h.err j (by omega);omega
 have haI:kb (va e i).Op=(Pb e i:Int):=by grind[Pb]
 unfold pe;dsimp only;rw[Ba hi,Jac,qg hi,Oi,Jac,haI,Sw (by omega) (by omega),Jac,Jad,wid (n:=(i:Int)-1) (by omega) (by omega),wid (n:=(Pb e i:Int)-1) (by omega) (by omega),NL h hi λa b c=>by grind[wh]];rfl
theorem Az(e:List GNode) (i:Nat):Pb e i<=3:=by
 grind[Pb,kb]
theorem XO(e:List GNode) (i:Nat):(Cy e i).length=Pb e i:=by simp[Cy]
theorem wE{e:List GNode}{i t:Nat}(h:t<Pb e i):idx (Cy e i) (t:Int)=some ((nh e i t:Nat):Int):=by
 grind[Cy,Ba]
theorem AN{α:Type}{f:Nat->α}{k t:Nat}(h:t<k):((aad k).map f).take (t+1)=((aad k).map f).take t++[f t]:=by
 grind[yad]
theorem K1{op:Int}{α:Type}{k:Bool->Option α}:(Kac (α:=Bool) (if op=23 then some true else if op=24 then some true else some (op==26)) k)=k (decide (op=23\/op=24\/op=26)):=by
 grind
def qp(p:GValue×Int):GValue×Int:=if¬p.2=0 then(⟨0,0,0⟩,p.2)else if p.1.Kind=1/\Bf p.1 then p else(⟨0,0,0⟩,8)
theorem M9{v:GValue}{α:Type}{k:Bool->Option α}:(Kac (α:=Bool) (if v.Kind=1 then(Wb v).bind λx4=>some (!x4)else some true) k)=k (decide (¬(v.Kind=1/\Bf v))):=by
 grind[Ls,tf]
theorem y4{R214:GEval_evaluator->Int->Option (GValue×Int)}{R250 R275}{x:GEval_evaluator}{j:Int}{p:GValue×Int}(h:R214 x j=some p):Bc R214 R250 R275 x j=some (qp p):=by
 unfold Bc qp;rw[h,Jac];simp only[M9]
 grind
def mD(op N:Int) (p0 p1 p2:GValue×Int):GValue×Int:=
 if¬N=0 then(⟨0,0,0⟩,2)else
 if¬(qp p0).2=0 then(⟨0,0,0⟩,(qp p0).2)else
 if op=26 then(if(qp p0).1.N=1 then p1 else p2)else
 if(op==23)=((qp p0).1.N==0)then((qp p0).1,0)else qp p1
theorem RT{op N:Int}{p0 p1 p2:GValue×Int}(h1:p1.2=0->Bf p1.1) (h2:p2.2=0->Bf p2.1):(mD op N p0 p1 p2).2=0->Bf (mD op N p0 p1 p2).1:=by
 grind[mD,qp]
theorem TR{l:List GValue}(hl:l.length<=1048576):Mi l=some (l.all Ls):=by
 have e1:da (Of l) 0=some (fc () (ff (λi=>if(l[i]?.any λv=>!Ls v)=true then some false else none) l.length)):=
  bc (λi=>(i:Int)) _ l.length () (λi hi _=>by
   unfold Of;rw[if_pos (by omega),Ba hi,Lac hi]
   grind[mH,tf,wa]) (λ_=>by grind[Of])
 unfold Mi;rw[e1];by_cases h:l.all Ls=true
 .have hn:∀i,i<l.length->(l[i]?.any λv=>!Ls v)=false:=by
   simp_all
  rw[Zb.2 (λi hi=>by simp_all),h];rfl
 .have hb:l.all Ls=false:=by simp_all
  obtain⟨x,hx,hx2⟩:∃x∈l,Ls x=false:=by
   simp_all
  obtain⟨k,hk,rfl⟩:=List.getElem_of_mem hx;have ne:ff (λi=>if(l[i]?.any λv=>!Ls v)=true then some false else none) l.length=some false:=by
   cases hf:ff (λi=>if(l[i]?.any λv=>!Ls v)=true then some false else none) l.length with
   |none=>
    grind[Zb]
   |some w=>
    obtain⟨i,_,h2,_⟩:=Sa.1 hf
    simp_all
  rw[ne,hb];rfl
theorem GK{n:GNode}{args:List GValue}{env:GEnv}(ha:args.length<=3) (h:1<=n.Op/\n.Op<=39->kb n.Op=args.length->sP n=true->mq n env=true->(∀a∈args,Bf a)->LB (Gg n args env)):LB (ub n args env):=by
 unfold ub;rw[cC,Oi,kz,TR (l:=args) (by omega)];simp only[Jac];have err:∀{c:Int},c≠0->LB (some (⟨0,0,0⟩,c)):=λh=>⟨_,rfl,λh2=>absurd h2 h⟩;by_cases h1:1<=n.Op/\n.Op<=39
 case neg=>grind
 rw[decide_eq_true h1];simp only[Lad];by_cases h2:sP n=true
 case neg=>simp_all
 rw[h2];simp only[if_true];by_cases h3:kb n.Op=args.length
 case neg=>
  grind
 have:((args.length:Int) !=kb n.Op)=false:=by grind
 rw[this];simp only[Jac,Tac,if_false];by_cases h4:mq n env=true
 case neg=>simp_all
 rw[h4];simp only[iad,if_false];by_cases h5:args.all Ls=true
 case neg=>grind
 rw[h5];simp only[if_true];have hp:∀a∈args,Bf a:=λa ha=>of_decide_eq_true (List.all_eq_true.1 h5 a ha);have hc:=h h1 h3 h2 h4 hp;have e1:(Kac (α:=Bool) ((Ea n args env).bind λx10=>some (!x10)) λj11=>if j11=true then some ((⟨0,0,0⟩:GValue),(8:Int))else(nb n args env).bind λx13=>if¬x13.2=0 then some (⟨0,0,0⟩,x13.2)else(Wb x13.1).bind λx15=>if x15=false then some (⟨0,0,0⟩,3)else some (x13.1,0))=Gg n args env:=by
  unfold Gg
  cases Ea n args env with
  |none=>rfl
  |some b=>
   grind[tf]
 simp_all
noncomputable def um(e:List GNode) (env:GEnv) (i:Nat):GValue×Int:=((ea (3*i+3)).1 ⟨e,(Re e e.length).1,env⟩ i).getD (⟨0,0,0⟩,0)
noncomputable def Bm(e:List GNode) (env:GEnv) (i:Nat):List GValue:=(aad (Pb e i)).map λt=>(um e env (nh e i t)).1
noncomputable def Jy(e:List GNode) (env:GEnv) (i:Nat) (t:Nat):Option (GValue×Int):=if¬(um e env (nh e i t)).2=0 then some (⟨0,0,0⟩,(um e env (nh e i t)).2)else none
noncomputable def ZM(e:List GNode) (env:GEnv) (i:Nat):GValue×Int:=
 if(va e i).Op=23\/(va e i).Op=24\/(va e i).Op=26 then
  mD (va e i).Op (va e i).N (um e env (nh e i 0)) (um e env (nh e i 1)) (if(va e i).Op=26 then um e env (nh e i 2)else(⟨0,0,0⟩,1))
 else match ff (Jy e env i) (Pb e i)with
  |some v=>v
  |none=>(ub (va e i) (Bm e env i) env).getD (⟨0,0,0⟩,0)
structure NodeP (e:List GNode) (env:GEnv) (i:Nat):Prop where
 p:∀n,3*i+3<=n->(ea n).1 ⟨e,(Re e e.length).1,env⟩ i=some (um e env i)
 ok:(um e env i).2=0->Bf (um e env i).1
 q:um e env i=ZM e env i
theorem JL{e:List GNode}{env:GEnv}{i:Nat}(h1:∀n,3*i+3<=n->(ea n).1 ⟨e,(Re e e.length).1,env⟩ i=some (ZM e env i)) (h3:(ZM e env i).2=0->Bf (ZM e env i).1):NodeP e env i:=by
 have:um e env i=ZM e env i:=by
  simp_all[um]
 exact⟨by simp_all,by simp_all,this⟩
theorem HW{e:List GNode}{env:GEnv}(h:Wst e) {i:Nat}(hi:i<e.length) {n:Nat}(ih:∀j,j<i->(ea n).1 ⟨e,(Re e e.length).1,env⟩ j=some (um e env j)) :
 da (Yc ⟨e,(Re e e.length).1,env⟩ (Cy e i) (ea n).1) (Nac (Pb e i) ⟨0,0,0⟩,0)=some (fc (Bm e env i) (ff (Jy e env i) (Pb e i))):=by
 have hl:=XO e i;have h3:=Az e i;refine bc (step:=Yc ⟨e,(Re e e.length).1,env⟩ (Cy e i) (ea n).1) (λt=>((Bm e env i).take t++Nac (Pb e i-t) ⟨0,0,0⟩,(t:Int))) (Jy e env i) (Pb e i) (Bm e env i) (λt ht _=>?_) (λ_=>?_) (by simp)
 .obtain⟨o1,-⟩:=Yk h hi ht;have hlen:(Bm e env i).length=Pb e i:=by simp[Bm]
  unfold Yc;dsimp only;rw[if_pos (by omega),wE ht,Jac,ih _ o1,Jac];unfold Jy;by_cases hc:(um e env (nh e i t)).2=0
  .rw[if_neg (qad.2 hc),if_neg (qad.2 hc)];rw[Ba (by grind),Jac,Vy (by grind),Jac,wa (by omega)];unfold mH;dsimp only;congr 3;rw[Eaf _ _ (by grind),show t-((Bm e env i).take t).length=0 by grind,show Pb e i-t=(Pb e i-(t+1))+1 by omega,kae,List.set_cons_zero]
   grind[Bm,AN]
  .rw[if_pos hc,if_pos hc];rfl
 .unfold Yc;dsimp only;rw[if_neg (by omega),Hae];have hlen:(Bm e env i).length=Pb e i:=by simp[Bm]
  grind
theorem wN{e:List GNode}(h:Wst e) {env:GEnv}(hA:∀i,i<e.length->¬((va e i).Op=23\/(va e i).Op=24\/(va e i).Op=26)->LB (ub (va e i) (Bm e env i) env)):∀i,i<e.length->NodeP e env i:=by
 intro i
 induction i using faf with
 |_ i ih=>
  intro hi;have hle:=h.le;have har:=h.ar hi;have hga:=Az e i;have hops:=XO e i;by_cases hlz:(va e i).Op=23\/(va e i).Op=24\/(va e i).Op=26
  .have hk:2<=Pb e i/\((va e i).Op=26->Pb e i=3):=by
    unfold Pb;rcases hlz with h|h|h<;>rw[h]<;>decide
   have o0:=(Yk h hi (j:=0) (by omega)).1;have o1:=(Yk h hi (j:=1) (by omega)).1;have b0:=ih _ o0 (by omega);have b1:=ih _ o1 (by omega);have i0:idx (Cy e i) 0=some ((nh e i 0:Nat):Int):=wE (t:=0) (by omega);have i1:idx (Cy e i) 1=some ((nh e i 1:Nat):Int):=wE (t:=1) (by omega);have hb2:(va e i).Op=26->NodeP e env (nh e i 2)/\nh e i 2<i/\idx (Cy e i) 2=some ((nh e i 2:Nat):Int):=λh26=>by
    grind[Yk,wE]
   have hq:ZM e env i=_:=if_pos hlz;refine JL (λn hn=>?_) (by
    rw[hq];exact RT b1.ok (by
     split
     .rename_i h26;exact(hb2 h26).1.ok
     omega))
   rw[hq];obtain⟨n,rfl⟩:∃m,n=m+3:=⟨n-3,by omega⟩;show Dc (ea (n+2)).1 (ea (n+2)).2.1 (ea (n+2)).2.2 _ _=_;unfold Dc;dsimp only;rw[Ba hi,Jac,qg hi,Gw h hi,Jac,K1,decide_eq_true hlz,if_pos rfl,nO];show kf (ea (n+1)).1 (ea (n+1)).2.1 (ea (n+1)).2.2 _ _ _=_;unfold kf mD;by_cases hN0:(va e i).N=0
   case neg=>simp_all
   rw[if_neg (qad.2 hN0),if_neg (qad.2 hN0),i0,Jac];have hbo:∀j,j<i->NodeP e env j->(ea (n+1)).2.2 ⟨e,(Re e e.length).1,env⟩ (j:Int)=some (qp (um e env j)):=λj hj hb=>(show Bc (ea n).1 (ea n).2.1 (ea n).2.2 _ _=_ from y4 (hb.p n (by omega)));rw[hbo _ o0 b0,Jac];by_cases hc:(qp (um e env (nh e i 0))).2=0
   case neg=>simp_all
   rw[if_neg (qad.2 hc),if_neg (qad.2 hc)];by_cases h26:(va e i).Op=26
   .obtain⟨c1,c2,c3⟩:=hb2 h26;rw[if_pos h26,if_pos h26,Jac,if_pos h26,if_pos h26];by_cases h1:(qp (um e env (nh e i 0))).1.N=1
    .rw[if_pos (by simp_all),if_pos h1,i1,Jac,nO];exact b1.p (n+1) (by omega)
    .rw[if_neg (by simp_all),if_neg h1,c3,Jac,nO];exact c1.p (n+1) (by omega)
   grind
  .obtain⟨q,q1,q3⟩:=hA i hi hlz;have hff:∀v,ff (Jy e env i) (Pb e i)=some v->v.2≠0:=by
    grind[Jy,Sa]
   have hq:ZM e env i=(match ff (Jy e env i) (Pb e i)with|some v=>v|none=>q):=by
    simp_all[ZM]
   refine JL (λn hn=>?_) ?_
   .rw[hq];obtain⟨n,rfl⟩:∃m,n=m+1:=⟨n-1,by omega⟩;show Dc (ea n).1 (ea n).2.1 (ea n).2.2 _ _=_;unfold Dc;dsimp only;rw[Ba hi,Jac,qg hi,Gw h hi,Jac,K1,decide_eq_false hlz,if_neg (by simp),hops,Sw (by omega) (by omega),Jac,HW h hi (λj hj=>(ih j hj (by omega)).p n (by omega)),Jac]
    grind[wU,S7]
   grind
theorem FR{e:List GNode}{env:GEnv}(h:Wst e) (hb:NodeP e env (e.length-1)):Ra e env=some (um e env (e.length-1))/\((um e env (e.length-1)).2=0->Bf (um e env (e.length-1)).1):=by
 have hf:1000000<=br:=by grind[br]
 have hp:=h.pos;have hle:=h.le;unfold Ra Ak;rw[vn];simp only[Jac];rw[Pq h];have e1:ca .i64 ((e.length:Int)-1)=((e.length-1:Nat):Int):=by grind[wid]
 unfold Mj;rw[e1];dsimp only;rw[if_neg (by decide),hb.p _ (by omega)];exact⟨rfl,hb.ok⟩
theorem gm{n:GNode}{args:List GValue}{env:GEnv}(ha:args.length<=3):ub n args env=if 1<=n.Op/\n.Op<=39/\sP n=true/\kb n.Op=args.length then(if mq n env=true then(if args.all Ls=true then Gg n args env else some (⟨0,0,0⟩,8))else some (⟨0,0,0⟩,6))else some (⟨0,0,0⟩,2):=by
 by_cases h1:1<=n.Op/\n.Op<=39/\sP n=true/\kb n.Op=args.length
 .rw[if_pos h1];unfold ub;rw[cC,Oi,kz,TR (l:=args) (by omega),decide_eq_true ⟨h1.1,h1.2.1⟩,h1.2.2.1];have hb:((args.length:Int) !=kb n.Op)=false:=by simp_all
  simp only[Jac,Bool.and_self,if_true,hb,Tac,if_false];cases mq n env
  .rfl
  cases args.all Ls
  .rfl
  simp only[Jac,if_true,Tac,iad,if_false];unfold Gg
  cases Ea n args env with
  |none=>rfl
  |some b=>
   grind[tf]
 .rw[if_neg h1];unfold ub;rw[cC,Oi]
  grind
def sH(op a b:Int):Bool:=if op=19 then a==b else if op=20 then a !=b else if op=21 then decide (a<b)else decide (a<=b)
def trV(b:Bool):GValue×Int:=(⟨1,0,if b=true then 1 else 0⟩,0)
theorem pA{op N:Int}{a b:GValue}{env:GEnv}(hop:19<=op/\op<=22):Gg ⟨op,N⟩ [a,b] env=some (if vM a b/\(21<=op->2<=a.Kind/\a.Kind<=5)then trV (sH op a.N b.N)else(⟨0,0,0⟩,8)):=by
 have hk:(2<=a.Kind/\a.Kind<=5)↔((2<=a.Kind/\a.Kind<=4)\/a.Kind=5):=by omega
 have hal:Ea ⟨op,N⟩ [a,b] env=some (decide (vM a b/\(21<=op->2<=a.Kind/\a.Kind<=5))):=by
  rw[K3 (by omega)];rcases(by omega:op=19\/op=20\/op=21\/op=22)with rfl|rfl|rfl|rfl<;>simp only[Yd,Uac,if_true,if_false,Jac,Yr,Fw,tO,Wac,Tac,hk]
  all_goals grind
 have hc:nb ⟨op,N⟩ [a,b] env=some (⟨1,0,if sH op a.N b.N=true then 1 else 0⟩,0):=by
  rw[vS (by omega)];rcases(by omega:op=19\/op=20\/op=21\/op=22)with rfl|rfl|rfl|rfl<;>simp only[Ni,sH,Uac,Wac,if_true,if_false,Tac,Jac,Rk]
 by_cases h:vM a b/\(21<=op->2<=a.Kind/\a.Kind<=5)
 .rw[decide_eq_true h]at hal;rw[tv hal hc,if_pos h,if_pos rfl,XF];rfl
 simp_all[UE,if_neg]
theorem VE{N:Int}{a:GValue}{env:GEnv}:Gg ⟨25,N⟩ [a] env=some (if a.Kind=1 then trV (a.N==0)else(⟨0,0,0⟩,8)):=by
 by_cases hn:a.Kind=1
 .rw[tv (v:=⟨1,0,if(a.N==0)=true then 1 else 0⟩) (e:=0) (by grind[Ea,He,Bh]) (by simp only[nb,Uac,if_false,Jac,Wac,Tac,Bh,Ft,Rk,rad,cae,if_true,oae,Nag]),if_pos hn,if_pos rfl,XF];rfl
 simp_all[Ea,He,UE,Bh]
theorem ry{op N:Int}{env:GEnv}(h:1<=op/\op<=5):Gg ⟨op,N⟩ [] env=some (Ks ⟨op,0,N⟩):=by
 rw[tv (v:=⟨op,0,N⟩) (e:=0) (by rcases(by omega:op=1\/op=2\/op=3\/op=4\/op=5)with rfl|rfl|rfl|rfl|rfl<;>simp[Ea]) (by rcases(by omega:op=1\/op=2\/op=3\/op=4\/op=5)with rfl|rfl|rfl|rfl|rfl<;>simp[nb]),if_pos rfl]
theorem TB{N:Int}{env:GEnv}:Gg ⟨6,N⟩ [] env=some (Ks ⟨6,ca .i64 (sad N 16),zad N 16⟩):=by
 rw[tv (v:=⟨6,ca .i64 (sad N 16),zad N 16⟩) (e:=0) (by simp[Ea]) (by simp[nb]),if_pos rfl]
theorem sx{N:Int}{env:GEnv}{v:GValue}(hi:idx env.Inputs N=some v) (hv:Ls v=true):Gg ⟨7,N⟩ [] env=some (v,0):=by
 rw[tv (v:=v) (e:=0) (by grind[Ea,tf]) (by grind[nb]),if_pos rfl]
 simp_all[Ks]
def Yl(op:Int):Prop:=op=1\/op=7\/op=25\/(2<=op/\op<=6)\/(19<=op/\op<=22)
theorem vy{e:List GNode}{i:Nat}(h:No e i=true):Yl (va e i).Op\/(va e i).Op=23\/(va e i).Op=24:=by
 unfold No Ky PA at h;unfold Yl
 grind
theorem zF{n:GNode}{args:List GValue}{env:GEnv}(hl:args.length<=3) (ho:Yl n.Op):LB (ub n args env):=by
 refine GK hl λh1 h2 h3 h4 h5=>?_;obtain⟨op,N⟩:=n;dsimp only at h1 h2 ho;have h2':args.length=(kb op).toNat:=by omega
 unfold Yl at ho;rcases(by omega:op=1\/op=2\/op=3\/op=4\/op=5\/op=6\/op=7\/op=25\/op=19\/op=20\/op=21\/op=22)with rfl|rfl|rfl|rfl|rfl|rfl|rfl|rfl|rfl|rfl|rfl|rfl
 all_goals
  first
  |(obtain rfl:=List.length_eq_zero_iff.1 h2';first|exact tR (by omega)|exact FZ|exact GZ h4)
  |(match args,h2' with|[a],_=>exact SV (h5 a (by simp)))
  |(match args,h2' with|[a,b],_=>grind[PV,QV])
def zK(e:List GNode) (k:Int) (v w:GValue):Prop:=
 v=w\/(v.Kind=w.Kind/\v.Enum=w.Enum/\2<=v.Kind/\v.Kind<=5/\∀i,i<e.length->Ky (va e i).Op=true->∀c,iy e i=some (k,c)->c.Op≠6->(v.N<c.N↔w.N<c.N)/\(c.N<v.N↔c.N<w.N))
structure InSame (e:List GNode) (a b:List GValue):Prop where
 len:a.length=b.length
 pl:∀v∈a,Bf v
 pr:∀v∈b,Bf v
 sm:∀(k:Nat) v w,(∃i,i<e.length/\(va e i).Op=7/\(va e i).N=(k:Int))->a[k]?=some v->b[k]?=some w->zK e k v w
structure NodeS (e:List GNode) (x y:GEnv) (i:Nat):Prop where
 px:NodeP e x i
 py:NodeP e y i
 eq:um e x i=um e y i\/((va e i).Op=7/\(um e x i).2=0/\(um e y i).2=0/\zK e (va e i).N (um e x i).1 (um e y i).1)
theorem zK.kind{e:List GNode}{k:Int}{v w:GValue}(h:zK e k v w):v=w\/(v.Kind=w.Kind/\v.Enum=w.Enum/\2<=v.Kind/\v.Kind<=5):=by
 rcases h with h|⟨h1,h2,h3,h4,-⟩
 all_goals simp_all
theorem NodeS.bool{e:List GNode}{x y:GEnv}{i:Nat}(h:NodeS e x y i):qp (um e x i)=qp (um e y i):=by
 rcases h.eq with h|⟨-,h1,h2,h3⟩
 .rw[h]
 .rcases h3.kind with h3|⟨k1,-,k2,k3⟩
  all_goals grind[qp]
theorem NodeS.err{e:List GNode}{x y:GEnv}{i:Nat}(h:NodeS e x y i):(um e x i).2=(um e y i).2:=by
 rcases h.eq with h|⟨-,h1,h2,-⟩
 all_goals simp_all
theorem EP{e:List GNode}{x y:GEnv}{i:Nat}(h:∀t,t<Pb e i->NodeS e x y (nh e i t)):ff (Jy e x i) (Pb e i)=ff (Jy e y i) (Pb e i):=
 nL λt ht=>by unfold Jy;rw[(h t ht).err]
theorem AF{n:GNode}{x y:GEnv}(h:Yl n.Op) (h7:n.Op≠7):mq n x=mq n y:=by
 unfold Yl at h
 grind[mq]
theorem O3{e:List GNode}{x:GEnv}{i:Nat}(h:Pb e i=1):Bm e x i=[(um e x (nh e i 0)).1]:=by grind[Bm]
theorem P3{e:List GNode}{x:GEnv}{i:Nat}(h:Pb e i=2):Bm e x i=[(um e x (nh e i 0)).1,(um e x (nh e i 1)).1]:=by unfold Bm;rw[h];rfl
theorem QK{v w c:Int}(h:(v<c↔w<c)/\(c<v↔c<w)) (op:Int):sH op v c=sH op w c/\sH op c v=sH op c w:=by
 have h3:v=c↔w=c:=by omega
 grind[sH]
theorem rF{e:List GNode}{x:GEnv}{i:Nat}(h:(va e i).Op=23\/(va e i).Op=24):ZM e x i=mD (va e i).Op (va e i).N (um e x (nh e i 0)) (um e x (nh e i 1)) (⟨0,0,0⟩,1):=by
 grind[ZM]
theorem sF{e:List GNode}{x:GEnv}{i:Nat}(h:Yl (va e i).Op):ZM e x i=(match ff (Jy e x i) (Pb e i)with|some v=>v|none=>(ub (va e i) (Bm e x i) x).getD (⟨0,0,0⟩,0)):=by
 unfold Yl at h
 grind[ZM]
theorem y1{ρ:Type}{f:Nat->Option ρ}:ff f 0=none:=by grind[ff]
theorem ap0{n:GNode}{x y:GEnv}(h:1<=n.Op/\n.Op<=6):ub n [] x=ub n [] y:=by
 rw[gm (by simp),gm (by simp),AF (x:=x) (y:=y) (by unfold Yl;omega) (by omega)];obtain⟨op,N⟩:=n
 grind[TB,ry]
theorem ap1{n:GNode}{x y:GEnv}(h:n.Op=25) {a b:GValue}(hp:Ls a=Ls b) (hab:a=b\/(a.Kind=b.Kind/\2<=a.Kind)):ub n [a] x=ub n [b] y:=by
 rw[gm (by simp),gm (by simp),AF (x:=x) (y:=y) (by unfold Yl;omega) (by omega)];obtain⟨op,N⟩:=n;dsimp only at h;subst h;have:Gg ⟨25,N⟩ [a] x=Gg ⟨25,N⟩ [b] y:=by
  rw[VE,VE]
  grind
 simp_all
theorem ap2{n:GNode}{x y:GEnv}(h:19<=n.Op/\n.Op<=22) {a a' b b':GValue}(hp:Ls a=Ls a') (hq:Ls b=Ls b') (ha:a.Kind=a'.Kind/\a.Enum=a'.Enum) (hb:b.Kind=b'.Kind/\b.Enum=b'.Enum)
 (hc:vM a b->sH n.Op a.N b.N=sH n.Op a'.N b'.N):ub n [a,b] x=ub n [a',b'] y:=by
 rw[gm (by simp),gm (by simp),AF (x:=x) (y:=y) (by unfold Yl;omega) (by omega)];obtain⟨op,N⟩:=n;have:Gg ⟨op,N⟩ [a,b] x=Gg ⟨op,N⟩ [a',b'] y:=by
  rw[pA h,pA h];by_cases hs:vM a b
  .have hs':vM a' b':=by unfold vM at hs⊢;omega
   simp_all
  .have hs':¬vM a' b':=by unfold vM at hs⊢;omega
   simp_all
 simp_all
theorem NO{e:List GNode}{z:GEnv}{j:Nat}(hp:NodeP e z j) (hl:PA (va e j).Op=true) (h0:(um e z j).2=0):((va e j).Op=6/\(um e z j).1.Kind=6)\/((va e j).Op≠6/\(um e z j).1.N=(va e j).N):=by
 unfold PA at hl;simp only[Sac,decide_eq_true_eq]at hl;have har:Pb e j=0:=by
  unfold Pb;rcases(by omega:(va e j).Op=2\/(va e j).Op=3\/(va e j).Op=4\/(va e j).Op=5\/(va e j).Op=6)with h|h|h|h|h<;>rw[h]<;>decide
 have ax:Bm e z j=[]:=by grind[Bm]
 have hm:∀v:GValue,(Ks v).2=0->(Ks v).1=v:=λv h=>by
  grind[Ks]
 have key:um e z j=Ks (if(va e j).Op=6 then⟨6,ca .i64 (sad (va e j).N 16),zad (va e j).N 16⟩else⟨(va e j).Op,0,(va e j).N⟩):=by
  have hq:um e z j=(ub (va e j) [] z).getD (⟨0,0,0⟩,0):=by
   rw[hp.q,sF (by unfold Yl;omega),har,y1,ax]
  rw[hq,gm (by simp)]at h0⊢;split at h0
  .split at h0
   .have al:([]:List GValue).all Ls=true:=rfl;rename_i h1 h2;rw[if_pos h1,if_pos h2,if_pos al];by_cases h6:(va e j).Op=6
    .rw[if_pos h6,show Gg (va e j) [] z=Gg ⟨6,(va e j).N⟩ [] z by rw[←h6],TB];rfl
    .rw[if_neg h6,show Gg (va e j) [] z=some (Ks ⟨(va e j).Op,0,(va e j).N⟩)from ry (op:=(va e j).Op) (N:=(va e j).N) (by omega)];rfl
   simp_all
  simp_all
 grind
theorem uQ{e:List GNode}(h:Wst e) (hf:∀i,i<e.length->No e i=true) {x y:GEnv}(hs:InSame e x.Inputs y.Inputs):∀i,i<e.length->NodeS e x y i:=by
 intro i
 induction i using faf with
 |_ i ih=>
  intro hi;have hga:=Az e i;have px:=wN h (env:=x) (λj hj hl=>zF (by grind[Bm,Az]) ((vy (hf j hj)).resolve_right λh=>hl (by omega))) i hi;have py:=wN h (env:=y) (λj hj hl=>zF (by grind[Bm,Az]) ((vy (hf j hj)).resolve_right λh=>hl (by omega))) i hi;refine⟨px,py,?_⟩;have hop:∀t,t<Pb e i->NodeS e x y (nh e i t):=λt ht=>ih _ (Yk h hi ht).1 (by have:=(Yk h hi ht).1;omega);rw[px.q,py.q];by_cases hl:(va e i).Op=23\/(va e i).Op=24
  .have hk:2=Pb e i:=by unfold Pb;rcases hl with h|h<;>rw[h]<;>decide
   left;rw[rF hl,rF hl];unfold mD;rw[(hop 0 (by omega)).bool,(hop 1 (by omega)).bool,if_neg (c:=(va e i).Op=26) (by omega),if_neg (c:=(va e i).Op=26) (by omega)]
  .have ho:=(vy (hf i hi)).resolve_right hl;rw[sF ho,sF ho,EP hop]
   cases hff:ff (Jy e y i) (Pb e i)with
   |some v=>simp
   |none=>
    dsimp only;have hz:∀t,t<Pb e i->(um e y (nh e i t)).2=0:=λt ht=>by
     simp_all[Jy,Zb]
    have hzx:∀t,t<Pb e i->(um e x (nh e i t)).2=0:=λt ht=>(hop t ht).err.trans (hz t ht);have hpl:∀t,t<Pb e i->Ls (um e x (nh e i t)).1=Ls (um e y (nh e i t)).1:=λt ht=>by
     unfold Ls;rw[decide_eq_true ((hop t ht).px.ok (hzx t ht)),decide_eq_true ((hop t ht).py.ok (hz t ht))]
    have hv:∀t,t<Pb e i->(um e x (nh e i t)).1=(um e y (nh e i t)).1\/((va e (nh e i t)).Op=7/\zK e (va e (nh e i t)).N (um e x (nh e i t)).1 (um e y (nh e i t)).1):=λt ht=>by
     rcases(hop t ht).eq with h|⟨h1,-,-,h2⟩
     all_goals simp_all
    have hk:∀t,t<Pb e i->(um e x (nh e i t)).1.Kind=(um e y (nh e i t)).1.Kind/\(um e x (nh e i t)).1.Enum=(um e y (nh e i t)).1.Enum:=λt ht=>by
     rcases hv t ht with h|⟨-,h⟩
     .simp_all
     .rcases h.kind with h|h
      all_goals simp_all
    have ho':=ho;unfold Yl at ho';by_cases h6:1<=(va e i).Op/\(va e i).Op<=6
    .have har:Pb e i=0:=by
      unfold Pb;rcases(by omega:(va e i).Op=1\/(va e i).Op=2\/(va e i).Op=3\/(va e i).Op=4\/(va e i).Op=5\/(va e i).Op=6)with h|h|h|h|h|h<;>rw[h]<;>decide
     grind[Bm,ap0]
    by_cases h25:(va e i).Op=25
    .have har:Pb e i=1:=by unfold Pb;rw[h25];decide
     left;rw[O3 har,O3 har,ap1 (y:=y) h25 (hpl 0 (by omega))];rcases hv 0 (by omega)with h|⟨-,h⟩
     .simp_all
     .rcases h.kind with h|h
      all_goals grind
    by_cases h7:(va e i).Op=7
    .have har:Pb e i=0:=by unfold Pb;rw[h7];decide
     have ax:∀z,Bm e z i=[]:=λz=>by grind[Bm]
     rw[ax,ax,gm (by simp),gm (by simp)];have hfn:mq (va e i) x=mq (va e i) y:=by unfold mq;rw[if_pos h7,if_pos h7,hs.len]
     rw[hfn];split
     .by_cases hin:mq (va e i) y=true
      .unfold mq at hin;rw[if_pos h7,decide_eq_true_eq]at hin;have hx:idx x.Inputs (va e i).N=some (x.Inputs[(va e i).N.toNat]'(by have:=hs.len;omega)):=Si hin.1 (by have:=hs.len;omega);have hy:idx y.Inputs (va e i).N=some (y.Inputs[(va e i).N.toNat]'(by omega)):=Si hin.1 hin.2;have hvx:=hs.pl _ (Qac (l:=x.Inputs) (n:=(va e i).N.toNat) (by grind));have hvy:=hs.pr _ (Qac (l:=y.Inputs) (n:=(va e i).N.toNat) (by omega));have hsm:=hs.sm (va e i).N.toNat _ _ ⟨i,hi,h7,by omega⟩ (Lac (by grind)) (Lac (by omega));have e7:va e i=⟨7,(va e i).N⟩:=by rw[←h7]
       have eN:(((va e i).N.toNat:Nat):Int)=(va e i).N:=by omega
       rw[eN]at hsm;have al:([]:List GValue).all Ls=true:=rfl;have hfy:mq (va e i) y=true:=by grind[mq]
       rw[if_pos hfy,if_pos hfy,if_pos al,if_pos al];have cx:=sx hx (decide_eq_true hvx);have cy:=sx hy (decide_eq_true hvy)
       grind
      simp_all
     simp
    .have har:Pb e i=2:=by
      unfold Pb;rcases(by omega:(va e i).Op=19\/(va e i).Op=20\/(va e i).Op=21\/(va e i).Op=22)with h|h|h|h<;>rw[h]<;>decide
     left;have hcb:Ky (va e i).Op=true:=by grind[Ky]
     have hfl:=hf i hi;unfold No at hfl;rw[if_pos hcb]at hfl;have k0:=hk 0 (by omega);have k1:=hk 1 (by omega);rw[P3 har,P3 har,ap2 (y:=y) (by omega) (hpl 0 (by omega)) (hpl 1 (by omega)) k0 k1 λhsm=>?_]
     cases hsi:iy e i with
     |none=>simp_all
     |some v=>
      have hsi2:=hsi;unfold iy at hsi;rw[if_pos har]at hsi;split at hsi
      .rename_i hA;obtain rfl:=nad hsi;have h1:(um e x (nh e i 1)).1=(um e y (nh e i 1)).1:=(hv 1 (by omega)).resolve_right λh=>by grind[PA]
       have hlv:=NO (hop 1 (by omega)).py hA.2 (hz 1 (by omega));rw[h1]at hsm⊢;rcases hv 0 (by omega)with h0|⟨-,h0|⟨a1,a2,a3,a4,a5⟩⟩
       .rw[h0]
       .rw[h0]
       .rcases hlv with⟨-,b⟩|⟨b1,b2⟩
        .exact absurd hsm.1 (by omega)
        grind[QK]
      .split at hsi
       .rename_i hA;obtain rfl:=nad hsi;have h1:(um e x (nh e i 0)).1=(um e y (nh e i 0)).1:=(hv 0 (by omega)).resolve_right λh=>by simp_all
        have hlv:=NO (hop 0 (by omega)).py hA.2 (hz 0 (by omega));rw[h1]at hsm⊢;rcases hv 1 (by omega)with h0|⟨-,h0|⟨a1,a2,a3,a4,a5⟩⟩
        .rw[h0]
        .rw[h0]
        .rcases hlv with⟨-,b⟩|⟨b1,b2⟩
         .exact absurd hsm.1 (by omega)
         .have:=a5 i hi hcb _ hsi2 b1;rw[b2];exact(QK this _).2
       simp_all
noncomputable def dH(t0 t1:List Int) (i:Nat):Option Int:=
 match t0[i]?,t1[i]? with
 |some p,some q=>if p < -1\/(i:Int)<=p then some 9 else if q<0\/9<q then some 3 else none
 |_,_=>none
noncomputable def fH(t0 t1:List Int):Int:=
 if¬(t0.length:Int)=(t1.length:Int)then 2 else if 8<(t0.length:Int)then 4 else
 match ff (dH t0 t1) t0.length with|some v=>v|none=>0
theorem R7{a b:Prop} [Decidable a] [Decidable b] {α:Type}{k:Bool->Option α}:(Kac (α:=Bool) (if¬a then some (decide b)else some true) k)=k (decide (a\/b)):=by
 grind
theorem Xy(t0 t1:List Int):sj t0 t1=some (fH t0 t1):=by
 unfold sj fH;by_cases hl:(t0.length:Int)=(t1.length:Int)
 case neg=>simp_all
 rw[if_neg (qad.2 hl),if_neg (qad.2 hl)];by_cases h8:8<(t0.length:Int)
 .simp_all
 rw[if_neg h8,if_neg h8];have e1:da (Yf t0 t1) 0=some (fc () (ff (dH t0 t1) t0.length)):=
  bc (λi=>(i:Int)) _ t0.length () (λi hi _=>by
   unfold Yf dH;rw[if_pos (by omega),Ba hi,Lac hi,Lac (l:=t1) (by omega)];dsimp only;rw[Jac,R7,Ba (l:=t1) (by omega),Jac,R7,wa (by omega)]
   grind[mH]) (λ_=>by grind[Yf])
 rw[e1];cases ff (dH t0 t1) t0.length<;>rfl
structure TreeOk (t0 t1:List Int):Prop where
 len:t0.length=t1.length
 le:t0.length<=8
 par:∀i (h:i<t0.length),-1<=t0[i]/\t0[i]<(i:Int)
theorem PI{t0 t1:List Int}(h:fH t0 t1=0):TreeOk t0 t1:=by
 unfold fH at h;by_cases hl:(t0.length:Int)=(t1.length:Int)
 case neg=>omega
 rw[if_neg (qad.2 hl)]at h;by_cases h8:8<(t0.length:Int)
 .omega
 rw[if_neg h8]at h;refine⟨by omega,by omega,λi hi=>?_⟩;have hn:ff (dH t0 t1) t0.length=none:=by
  grind[dH,Sa]
 grind[dH,Zb]
def qS(t0:List Int) (at_:Int):Nat->List Int
 |0=>[]
 |n+1=>if t0[n]?=some at_ then qS t0 at_ n++[(n:Int)]else qS t0 at_ n
def gA(t0:List Int) (at_:Int):List Int:=qS t0 at_ t0.length
theorem lE(t0:List Int) (a:Int):∀n,(qS t0 a n).length<=n
 |0=>by simp[qS]
 |n+1=>by
  have:=lE t0 a n
  grind[qS]
theorem nA{t0:List Int}{a x:Int}:∀{n:Nat},x∈qS t0 a n->∃k:Nat,x=(k:Int)/\k<n/\t0[k]?=some a
 |0,h=>by grind[qS]
 |n+1,h=>by
  unfold qS at h;split at h
  .rename_i hn;rcases List.mem_append.1 h with h|h
   .obtain⟨k,a1,a2,a3⟩:=nA h;grind
   grind
  .obtain⟨k,a1,a2,a3⟩:=nA h;grind
theorem Ns{t0:List Int}(hl:t0.length<=1048576) (a:Int):qj t0 a=some (gA t0 a):=by
 have step:da (Xf t0 a) (([]:List Int),0)=some (.inl (gA t0 a)):=by
  refine Lc (λi=>(qS t0 a i,(i:Int))) t0.length _ (λi hi=>?_) ?_ rfl
  .have h1:=lE t0 a i;unfold Xf;dsimp only;rw[if_pos (by omega),Ba hi,Jac,wa (by omega)];simp only[qS,Lac hi,Aad];by_cases hc:t0[i]=a
   .rw[if_pos hc,if_pos hc,ui (by grind)];rfl
   simp_all
  grind[Xf,gA]
 grind[qj]
def pri(t1:List Int) (x:Int):Int:=(t1[x.toNat]?).getD 0
def kx(t1:List Int) (out:Int->Int) (acc:List Int) (x:Int):List Int:=
 if out x = -1 then acc else
 match acc with
 |[]=>[x]
 |y::l=>if pri t1 y<pri t1 x then [x]else if pri t1 x=pri t1 y then y::l++[x]else y::l
def nr(t1:List Int) (out:Int->Int) (l:List Int):List Int:=l.foldl (kx t1 out) []
theorem Ys{t1:List Int}{out:Int->Int}{l:List Int}:∀x∈nr t1 out l,x∈l:=by
 have:∀(l acc:List Int),∀x∈l.foldl (kx t1 out) acc,x∈acc\/x∈l:=by
  intro l
  induction l with
  |nil=>simp
  |cons y l ih=>
   intro acc x hx;rcases ih _ x hx with h|h
   .unfold kx at h
    grind
   simp_all
 intro x hx;rcases this l [] x hx with h|h
 all_goals simp_all
theorem GP(t1:List Int) (out:Int->Int) (l:List Int):(nr t1 out l).length<=l.length:=by
 have:∀(l acc:List Int),(l.foldl (kx t1 out) acc).length<=acc.length+l.length:=by
  intro l
  induction l with
  |nil=>simp
  |cons y l ih=>
   intro acc;refine Nat.le_trans (ih _) ?_;have:(kx t1 out acc y).length<=acc.length+1:=by
    unfold kx
    grind
   grind
 have h:=this l [];rw[cae,oae]at h;exact h
theorem zM{t1:List Int}{out:Int->Int}{l:List Int}{x:Int}:nr t1 out (l++[x])=kx t1 out (nr t1 out l) x:=by simp[nr]
theorem IK{t1:List Int}{o o':Int->Int}{l:List Int}(h:∀x∈l,o x=o' x):nr t1 o l=nr t1 o' l:=by
 have:∀(l acc:List Int),(∀x∈l,o x=o' x)->l.foldl (kx t1 o) acc=l.foldl (kx t1 o') acc:=by
  intro l
  induction l with
  |nil=>simp
  |cons y l ih=>
   simp_all[kx]
 exact this l [] h
theorem fI{t1:List Int}{out:Int->Int}{l:List Int}(hl:l.length<=100) (hm:∀x∈l,0<=x/\x<(t1.length:Int)) {step:List Int×Int->Option (Ex (List Int×Int) (List Int) Unit)}{g:Int->Option Int}(hg:∀x∈l,g x=some (out x)) {mt:List Int->Option (List Int)}(hmt:∀q,mt q=some [])
 (hs:∀a b,step (a,b)=if b<(l.length:Int)then
  Kac (α:=(List Int)) (
   (idx l b).bind λx5=>(g x5).bind λx6=>if x6=(-1)then some a else
   Kac (α:=(List Int)) (Kac (α:=Bool) (if 0<(a.length:Int)then(idx t1 x5).bind λx9=>(idx a 0).bind λx10=>(idx t1 x10).bind λx11=>some (decide (x11<x9))else some false) λj12=>if j12=true then mt a else some a) λj15=>
   Kac (α:=Bool) (if¬(j15.length:Int)=0 then(idx t1 x5).bind λx17=>(idx j15 0).bind λx18=>(idx t1 x18).bind λx19=>some (x17==x19)else some true) λj20=>
   if j20=true then(app 8 j15 ([x5])).bind λx22=>some x22 else some j15) λj23=>some (Ex.go (j23,(ca .i64 (b+1))))
  else some (Ex.brk a)):da step (([]:List Int),0)=some (.inl (nr t1 out l)):=by
 refine Lc (λi=>(nr t1 out (l.take i),(i:Int))) l.length _ (λi hi=>?_) ?_ rfl
 .have h1:=GP t1 out (l.take i);have h2:(l.take i).length<=l.length:=by grind
  have hsub:∀y∈nr t1 out (l.take i),0<=y/\y<(t1.length:Int):=λy hy=>hm y (List.mem_of_mem_take (Ys y hy));rw[hs,if_pos (by omega),Ba hi,Jac,hg _ (Qac hi),Jac,wa (by omega),yad,Lac hi];have hx:=hm _ (Qac hi);simp only[iae,zM];generalize l[i]=x at hx⊢;have hpx:idx t1 x=some (pri t1 x):=by grind[pri,Si]
  generalize nr t1 out (l.take i)=acc at h1 hsub⊢;unfold kx;by_cases ho:out x = -1
  .simp_all
  rw[if_neg ho,if_neg ho];rcases acc with _|⟨y,r⟩
  .simp_all[ui]
  .have hy:=hsub y (by simp);have hpy:idx t1 y=some (pri t1 y):=by grind[pri,Si]
   have i0:∀(q:List Int),idx (y::q) 0=some y:=λq=>by simp[idx]
   dsimp only;rw[if_pos (by simp),hpx,i0,Jac,Jac,hpy,Jac,Jac];by_cases hlt:pri t1 y<pri t1 x
   .rw[if_pos (by simp_all),hmt,Jac,if_neg (by simp),Jac,if_pos rfl,ui (by simp),if_pos hlt];rfl
   .rw[if_neg (by simp_all),Jac,if_pos (by grind),Jac,i0,Jac,hpy,Jac,Jac,if_neg hlt];by_cases he:pri t1 x=pri t1 y
    .rw[if_pos (by simp_all),if_pos he,ui (by grind)];rfl
    simp_all
 simp_all
def ML(t1:List Int) (out:Int->Int) (l:List Int):Int:=
 match nr t1 out l with
 |[]=>-1
 |[x]=>out x
 |_=>-2
theorem QQ{t1:List Int}{o o':Int->Int}{l:List Int}(h:∀x∈l,o x=o' x):ML t1 o l=ML t1 o' l:=by
 grind[ML,IK,Ys]
def oc(t0 t1:List Int) (t2:List Bool):Nat->Int->Int
 |0,_=>-1
 |k+1,i=>if ML t1 (oc t0 t1 t2 k) (gA t0 i) = -1/\(t2[i.toNat]?).getD false=true then i else ML t1 (oc t0 t1 t2 k) (gA t0 i)
theorem UC{t0 t1:List Int}(h:TreeOk t0 t1) {i x:Int}(hx:x∈gA t0 i):i<x/\0<=x/\x<(t0.length:Int):=by
 obtain⟨k,rfl,hk,hp⟩:=nA hx;have:=h.par k hk
 simp_all
theorem OQ{t0 t1:List Int}{t2:List Bool}(h:TreeOk t0 t1):∀(d:Nat) (i:Int),0<=i->(t0.length:Int)-i<=d->∀k k':Nat,(t0.length:Int)-i<=k->(t0.length:Int)-i<=k'->i<t0.length->oc t0 t1 t2 k i=oc t0 t1 t2 k' i:=by
 intro d
 induction d with
 |zero=>omega
 |succ d ih=>
  intro i h0 hd k k' hk hk' hi;obtain⟨k,rfl⟩:∃m,k=m+1:=⟨k-1,by omega⟩;obtain⟨k',rfl⟩:∃m,k'=m+1:=⟨k'-1,by omega⟩;have:ML t1 (oc t0 t1 t2 k) (gA t0 i)=ML t1 (oc t0 t1 t2 k') (gA t0 i):=QQ λx hx=>by
   have:=UC h hx
   grind
  grind[oc]
def O(t0 t1:List Int) (t2:List Bool) (i:Int):Int:=oc t0 t1 t2 t0.length i
theorem O_eq{t0 t1:List Int}{t2:List Bool}(h:TreeOk t0 t1) {i:Int}(h0:0<=i) (h1:i<t0.length):O t0 t1 t2 i=if ML t1 (O t0 t1 t2) (gA t0 i) = -1/\(t2[i.toNat]?).getD false=true then i else ML t1 (O t0 t1 t2) (gA t0 i):=by
 unfold O;rw[OQ h t0.length i h0 (by omega) t0.length (t0.length+1) (by omega) (by omega) h1];rfl
noncomputable def nw(t0 t1:List Int) (t2:List Bool):Int:=if fH t0 t1=0/\t2.length=t0.length then ML t1 (O t0 t1 t2) (gA t0 (-1))else -1
theorem UA{t0 t1 out:List Int}(h:TreeOk t0 t1) {f:Int->Int}{i:Int}(ho:∀x∈gA t0 i,idx out x=some (f x)):Jb ⟨t0,t1,out⟩ i=some (ML t1 f (gA t0 i)):=by
 have hle:=h.le;have hlen:=h.len;have hcl:=lE t0 i t0.length;unfold Jb Rc;dsimp only;rw[Ns (by omega) i,Jac];have hb:=fI (t1:=t1) (out:=f) (l:=gA t0 i) (by grind[gA]) (λx hx=>by have:=UC h hx;omega) (step:=Kd ⟨t0,t1,out⟩ (gA t0 i)) (g:=λx=>idx out x) ho (mt:=λq=>(Ws q 0).bind λx14=>some x14) (λq=>by rw[show(0:Int)=((0:Nat):Int)from rfl,Tu (by omega)];rfl) (λa b=>by grind[Kd]);rw[hb];simp only[Jac];unfold ML;have hs:=Ys (t1:=t1) (out:=f) (l:=gA t0 i);generalize nr t1 f (gA t0 i)=r at hs⊢;rcases r with _|⟨x,_|⟨y,q⟩⟩
 all_goals grind[idx]
theorem gG{t0 t1:List Int}{t2:List Bool}(h:TreeOk t0 t1) (h2:t2.length=t0.length):tg t0 t1 t2=some ((aad t0.length).map λ(k:Nat)=>O t0 t1 t2 (k:Int)):=by
 have hle:=h.le;unfold tg;rw[Sw (by omega) (by omega),Jac,wid (by omega) (by omega)];have hl:da (Zf t0 t1 t2) (Nac t0.length 0,(t0.length:Int)-1)=some (.inl ((aad t0.length).map λ(k:Nat)=>O t0 t1 t2 (k:Int))):=by
  refine Lc (λt=>((aad t0.length).map (λ(k:Nat)=>if k<t0.length-t then 0 else O t0 t1 t2 (k:Int)),(t0.length:Int)-1-t)) t0.length _ (λt ht=>?_) ?_ ?_
  .obtain⟨j,hj⟩:∃j,t0.length=t+j+1:=⟨t0.length-t-1,by omega⟩;have ej:(t0.length:Int)-1-t=(j:Int):=by omega
   have ej2:t0.length-t=j+1:=by omega
   have ej3:t0.length-(t+1)=j:=by omega
   skip
   rw[ej,ej2,ej3];unfold Zf;dsimp only;rw[if_pos (by omega)];have hof:Jb ⟨t0,t1,(aad t0.length).map (λ(k:Nat)=>if k<j+1 then 0 else O t0 t1 t2 (k:Int))⟩ (j:Int)=some (ML t1 (O t0 t1 t2) (gA t0 (j:Int))):=by
    refine UA h λx hx=>?_;have:=UC h hx;obtain⟨k,rfl⟩:=Wae this.2.1;rw[Ba (by grind)]
    grind
   rw[hof,Jac,Ba (by grind),Jac,Vy (by grind),Jac];rw[Ba (by grind)];simp only[hag,Jac];have hO:=O_eq (t2:=t2) h (i:=(j:Int)) (by omega) (by omega);rw[zae,Lac (by omega)]at hO;simp only[Option.getD_some]at hO;have hset:∀v,v=O t0 t1 t2 (j:Int)->((aad t0.length).map (λ(k:Nat)=>if k<j+1 then 0 else O t0 t1 t2 (k:Int))).set j v=(aad t0.length).map (λ(k:Nat)=>if k<j then 0 else O t0 t1 t2 (k:Int)):=by
    intro v hv;apply lae
    all_goals grind
   have hw:ca .i64 ((j:Int)-1)=(t0.length:Int)-1-((t+1:Nat):Int):=by grind[wid]
   by_cases hm:ML t1 (O t0 t1 t2) (gA t0 (j:Int)) = -1
   .rw[if_pos hm,Ba (l:=t2) (by omega),Jac,Jac];by_cases ha:t2[j]'(by omega)=true
    .rw[if_pos ha,Vy (by grind),Jac,Jac,List.set_set,hset _ (by simp_all),hw]
    simp_all
   simp_all
  .grind[Zf]
  ·((try dsimp only))
   rw[Nat.sub_zero];congr 1
   .apply lae
    all_goals simp_all
   .simp
 simp_all
theorem rj(t0 t1:List Int) (t2:List Bool):We t0 t1 t2=some (nw t0 t1 t2):=by
 unfold We nw;rw[Xy t0 t1,Jac];by_cases hv:fH t0 t1=0
 case neg=>simp_all
 rw[if_pos hv,Jac];by_cases h2:t2.length=t0.length
 case neg=>grind
 have h:=PI hv;rw[if_neg (by simp_all),if_pos ⟨hv,h2⟩,gG h h2,Jac,UA h (f:=O t0 t1 t2) λx hx=>by
  have:=UC h hx;obtain⟨k,rfl⟩:=Wae this.2.1
  grind[Ba]]
 rfl
section
variable {rules:List GRule} {q:GRule->Bool}
end
def YJ(s:GScope) (x:Int):Int:=((s.Rules[x.toNat]?).map (·.Priority)).getD 0
def oa(s:GScope) (d date:Int):List Int×List Int×List Int:=
 ((pj s.Rules (Ju d date) s.Rules.length).1,(pj s.Rules (Ju d date) s.Rules.length).2.1,(pj s.Rules (Ju d date) s.Rules.length).1.map (YJ s))
theorem Qk{s:GScope}(hs:s.Rules.length<=1048576) (d date:Int):oe s d date=some (oa s d date):=by
 unfold oe oa;rw[pq hs (q:=Ju d date) (λr=>by
  grind[Qe,Ju,xr]),Jac]
 have hl:=(Yp (rules:=s.Rules) (q:=Ju d date) s.Rules.length).2.1;have hm:=Og (rules:=s.Rules) (q:=Ju d date) s.Rules.length;generalize (pj s.Rules (Ju d date) s.Rules.length).2.1=pp;generalize (pj s.Rules (Ju d date) s.Rules.length).1=L at hl hm;have h1:da (Ig s (L,pp)) (([]:List Int),0)=some (.inl (L.map (YJ s))):=by
  refine Lc (λi=>((L.take i).map (YJ s),(i:Int))) L.length _ (λi hi=>?_) ?_ rfl
  .have hx:=hm _ (Qac hi);have h2:(L.take i).length<=L.length:=by grind
   unfold Ig;dsimp only;rw[if_pos (by omega),Ba hi,Jac,Si hx.1 hx.2.1,Jac,ui (by grind),Jac,wa (by omega),yad,Lac hi]
   grind[YJ]
  simp_all[Ig]
 simp_all
noncomputable def qB(l:GLaw) (gs:List (List GNode)) (f:GField) (i:Nat):List Int:=if Fo gs i=true then HG f.Type_ l.Enums (kd (Ec gs i gs.length))else [0]
noncomputable def vi(l:GLaw) (gs:List (List GNode)) (s:GScope):Nat->List (List Int)
 |0=>[]
 |k+1=>vi l gs s k++(match s.Inputs[k]? with|some f=>[qB l gs f k]|none=>[])
noncomputable def og(l:GLaw) (sc def_ date:Int):List (List Int)×Int:=
 if¬(ln l).Code=0 then([],1)
 else if sc<0\/(l.Scopes.length:Int)<=sc then([],6)
 else match l.Scopes[sc.toNat]? with
  |none=>([],6)
  |some s=>
   if def_<0\/(s.Defs.length:Int)<=def_ then([],6)
   else if date<0\/109572<date then([],3)
   else if((zk s def_ date).any λg=>!Bk g (Oq l s))=true then([],17)
   else if 4096<tx (vi l (zk s def_ date) s s.Inputs.length)then([],4)
   else(vi l (zk s def_ date) s s.Inputs.length,0)
theorem Gl{e:List GNode}{s:GSignature}(h:Bk e s=true):Wst e:=by
 unfold Bk at h;simp only[Sac,decide_eq_true_eq]at h
 grind[iH]
theorem Ct{gs:List (List GNode)}(hg:gs.length<=1048576) (hw:∀g∈gs,Wst g) (i:Int):(kd (Ec gs i gs.length)).length<=1099511627:=by
 grind[dh,vr]
theorem aV{l:GLaw}(hm:∀x∈l.Enums,x.Members.length<=16) {gs:List (List GNode)}(hg:gs.length<=1048576) (hw:∀g∈gs,Wst g) (f:GField) (i:Nat):(qB l gs f i).length<=1099511628:=by
 unfold qB;split
 .have h1:=Ct hg hw (i:Int);unfold HG;split
  .simp
  .rename_i hlt;split
   .rename_i hk;obtain⟨b1,b2,b3,b4,b5⟩:=QB (t:=f.Type_) (e:=l.Enums) λx hx=>by grind
    grind[Lv]
   grind[dh]
 simp
theorem Oo{l:GLaw}(hm:∀x∈l.Enums,x.Members.length<=16) {gs:List (List GNode)}(hg:gs.length<=1048576) (hw:∀g∈gs,Wst g) (s:GScope):∀k,(vi l gs s k).length<=k/\∀r∈vi l gs s k,r.length<=1099511628
 |0=>by simp[vi]
 |k+1=>by
  obtain⟨h1,h2⟩:=Oo hm hg hw s k
  grind[vi,aV]
theorem N0{sc:Int}{n:Nat}{d:Int}{l:GLaw}{o:Option Bool}(ho:o=(if¬sc<0 then if¬(l.Scopes.length:Int)<=sc then if¬d<0 then(idx l.Scopes sc).bind λx=>some (decide ((x.Defs.length:Int)<=d))else some true else some true else some true)) :
 o=some (if sc<0\/(l.Scopes.length:Int)<=sc then true else match l.Scopes[sc.toNat]? with|none=>true|some s=>decide (d<0\/(s.Defs.length:Int)<=d)):=by
 rw[ho];by_cases h1:sc<0
 .grind
 by_cases h2:(l.Scopes.length:Int)<=sc
 .simp_all
 rw[if_pos h1,if_pos h2,if_neg (show¬(sc<0\/(l.Scopes.length:Int)<=sc) by omega),Si (by omega) (by omega),Lac (by omega)]
 grind
theorem EK{gs:List (List GNode)}{s:GSignature}{p:List GNode->GSignature->Option Bool}(hp:∀g∈gs,p g s=some (Bk g s)) (hg:gs.length<=1048576) {step:Int->Option (Ex Int Unit (List (List Int)×Int))}
 (hstep:∀i (hi:i<gs.length),step (i:Int)=(p gs[i] s).bind λx=>if x=false then some (.ret ([],17))else some (.go (ca .i64 ((i:Int)+1)))) (hend:step (gs.length:Int)=some (.brk ())) :
 da step 0=some (if(gs.any λg=>!Bk g s)=true then .inr ([],17)else .inl ()):=by
 have h1:da step 0=some (fc () (ff (λi=>if(gs[i]?.any λg=>!Bk g s)=true then some (([],17):List (List Int)×Int)else none) gs.length)):=by
  refine bc (λk=>(k:Int)) _ _ _ (λk hk _=>?_) (λ_=>hend) rfl;rw[hstep k hk,hp _ (Qac hk),Jac,wa (by omega),Lac hk,eae];cases Bk gs[k] s<;>rfl
 rw[h1,←Jm (g:=λ_=>(([],17):List (List Int)×Int))]
 cases hf:ff (λi=>if(gs[i]?.any λg=>!Bk g s)=true then some (([],17):List (List Int)×Int)else none) gs.length with
 |none=>rfl
 |some v=>
  obtain⟨j,-,j2,-⟩:=Sa.1 hf;split at j2
  .injection j2 with j2;subst j2;rfl
  simp_all
theorem xg{l:GLaw}(h:LawOk l) (sc def_ date:Int):Ug l sc def_ date=some (og l sc def_ date):=by
 unfold Ug og;rw[Qp h,Jac];by_cases hv:(ln l).Code=0
 .have hV:=dq hv;have hm:=hV.mem;have hr:=hV.rows;rw[if_neg (show¬¬(ln l).Code=0 from λh=>h hv),if_neg (show¬¬(ln l).Code=0 from λh=>h hv),N0 (n:=0) rfl,Jac];by_cases hs:sc<0\/(l.Scopes.length:Int)<=sc
  .simp_all
  rw[if_neg hs,if_neg hs];obtain⟨i,rfl⟩:∃i:Nat,sc=(i:Int):=⟨sc.toNat,by omega⟩;have hi:i<l.Scopes.length:=by omega
  rw[zae,Lac hi,Ba hi];have hS:=OD h (λx hx=>by grind) (λx hx=>by grind) hi;obtain⟨g1,g2,g3,g4,g5,g6⟩:=h.s _ (Qac hi);have hRu:∀r∈l.Scopes[i].Rules,RuleOk r:=λr hr=>ZJ h hi hr;dsimp only;generalize l.Scopes[i]=s at hS g1 g2 g3 g4 g5 g6 hRu⊢;by_cases hd:def_<0\/(s.Defs.length:Int)<=def_
  .simp_all
  rw[if_neg (show¬decide (def_<0\/(s.Defs.length:Int)<=def_)=true by simp_all),if_neg hd];have hdt:(if¬date<0 then some (decide (109572<date))else some true)=some (decide (date<0\/109572<date)):=by
   grind
  rw[hdt,Jac];by_cases hdd:date<0\/109572<date
  .simp_all
  rw[if_neg (by simp_all),if_neg hdd,Jac,Ly g2.rules,Jac,hS,Jac];have hgl:=BA s def_ date;have hgs:=λg hg=>tL (s:=s) (def_:=def_) (date:=date) (g:=g) hg;have gr:=g2.rules;generalize zk s def_ date=gs at hgl hgs⊢;have hN:∀g∈gs,∀n∈g,Xa n:=λg hg=>by
   grind
  rw[EK (p:=qn) (λg hg=>ME (hN g hg) _) (by omega) (step:=Qj gs (Oq l s)) (λk hk=>by
   unfold Qj;rw[if_pos (by omega),Ba hk,Jac]) (by grind[Qj]),Jac]
  cases hfl:gs.any λg=>!Bk g (Oq l s)
  .simp only[Tac,if_false];have hw:∀g∈gs,Wst g:=λg hg=>Gl (by have:=Bag.1 hfl g hg;simpa using this);have hgl2:∀g∈gs,g.length<=1048576:=λg hg=>by have:=(hw g hg).le;omega
   have hl:da (Pj l s gs) (([]:List (List Int)),0)=some (.inl (vi l gs s s.Inputs.length)):=by
    refine Lc (λk=>(vi l gs s k,(k:Int))) s.Inputs.length _ (λk hk=>?_) (by grind[Pj]) rfl;have hlen:=(Oo hm (by omega) hw s k).1;unfold Pj;simp only[vi,Lac hk];rw[if_pos (by omega),Ba hk,Jac,My (by omega) hgl2,Jac,mA (by omega) hw hN,wa (by omega)];unfold qB;cases Fo gs (k:Int)
    .simp only[Tac,if_false,Jac]
     grind[ui]
    .simp only[if_true,Jac]
     grind[qv,Ct,ui]
   grind[Oo,qH]
  .rfl
 simp_all
theorem mw{l:GLaw}(h:LawOk l) (sc def_ date:Int):Ro l sc def_ date=some (og l sc def_ date):=by
 unfold Ro og;rw[FC h,Jac];by_cases hv:(ln l).Code=0
 .have hV:=dq hv;have hm:=hV.mem;have hr:=hV.rows;rw[if_neg (show¬¬(ln l).Code=0 from λh=>h hv),if_neg (show¬¬(ln l).Code=0 from λh=>h hv),N0 (n:=0) rfl,Jac];by_cases hs:sc<0\/(l.Scopes.length:Int)<=sc
  .simp_all
  rw[if_neg hs,if_neg hs];obtain⟨i,rfl⟩:∃i:Nat,sc=(i:Int):=⟨sc.toNat,by omega⟩;have hi:i<l.Scopes.length:=by omega
  rw[zae,Lac hi,Ba hi];have hS:=Pu h hi;obtain⟨g1,g2,g3,g4,g5,g6⟩:=h.s _ (Qac hi);have hRu:∀r∈l.Scopes[i].Rules,RuleOk r:=λr hr=>ZJ h hi hr;dsimp only;generalize l.Scopes[i]=s at hS g1 g2 g3 g4 g5 g6 hRu⊢;by_cases hd:def_<0\/(s.Defs.length:Int)<=def_
  .simp_all
  rw[if_neg (show¬decide (def_<0\/(s.Defs.length:Int)<=def_)=true by simp_all),if_neg hd];have hdt:(if¬date<0 then some (decide (109572<date))else some true)=some (decide (date<0\/109572<date)):=by
   grind
  rw[hdt,Jac];by_cases hdd:date<0\/109572<date
  .simp_all
  rw[if_neg (by simp_all),if_neg hdd,Jac,BG g2.rules,Jac,hS,Jac];have hgl:=BA s def_ date;have hgs:=λg hg=>tL (s:=s) (def_:=def_) (date:=date) (g:=g) hg;have gr:=g2.rules;generalize zk s def_ date=gs at hgl hgs⊢;have hN:∀g∈gs,∀n∈g,Xa n:=λg hg=>by
   grind
  rw[EK (p:=Cn) (λg hg=>AG (hN g hg) _) (by omega) (step:=mo gs (Oq l s)) (λk hk=>by
   unfold mo;rw[if_pos (by omega),Ba hk,Jac]) (by grind[mo]),Jac]
  cases hfl:gs.any λg=>!Bk g (Oq l s)
  .simp only[Tac,if_false];have hw:∀g∈gs,Wst g:=λg hg=>Gl (by have:=Bag.1 hfl g hg;simpa using this);have hgl2:∀g∈gs,g.length<=1048576:=λg hg=>by have:=(hw g hg).le;omega
   have hl:da (ko l s gs) (([]:List (List Int)),0)=some (.inl (vi l gs s s.Inputs.length)):=by
    refine Lc (λk=>(vi l gs s k,(k:Int))) s.Inputs.length _ (λk hk=>?_) (by grind[ko]) rfl;have hlen:=(Oo hm (by omega) hw s k).1;unfold ko;simp only[vi,Lac hk];rw[if_pos (by omega),CG (by omega) hgl2,Jac,Ba hk,Jac,gB (by omega) hw hN,wa (by omega)];unfold qB;cases Fo gs (k:Int)
    .simp only[Tac,if_false,Jac]
     grind[ui]
    .simp only[if_true,Jac]
     grind[Hv,Ct,ui]
   grind[Oo,PH]
  .rfl
 simp_all
theorem uI{l:GLaw}(h:LawOk l) (sc def_ date:Int):(og l sc def_ date).1.length<=1099511627776/\∀x∈(og l sc def_ date).1,x.length<=1099511627776:=by
 unfold og;split
 .simp
 rename_i hv;have hV:=dq (qad.1 hv);split
 .simp
 split
 .simp
 rename_i s hs;obtain⟨hi,hs2⟩:=List.getElem?_eq_some_iff.1 hs;have hsm:s∈l.Scopes:=hs2▸Qac hi;obtain⟨g1,g2,g3,-⟩:=h.s s hsm;have hgl:=BA s def_ date;have gr:=g2.rules;split
 .simp
 split
 .simp
 split
 .simp
 rename_i hfl;split
 .simp
 have hfl':∀g∈zk s def_ date,Bk g (Oq l s)=true:=by simp_all
 have hw:∀g∈zk s def_ date,Wst g:=λg hg=>Gl (hfl' g hg);obtain⟨q1,q2⟩:=Oo hV.mem (by omega) hw s s.Inputs.length
 grind
theorem XR{t0 t1 out:List Int}(h:TreeOk t0 t1) {f:Int->Int}{i:Int}(ho:∀x∈gA t0 i,idx out x=some (f x)):Rc ⟨t0,t1,out⟩ i=some (nr t1 f (gA t0 i)):=by
 have hle:=h.le;have hlen:=h.len;have hcl:=lE t0 i t0.length;unfold Rc;dsimp only;rw[Ns (by omega) i,Jac];have hb:=fI (t1:=t1) (out:=f) (l:=gA t0 i) (by grind[gA]) (λx hx=>by have:=UC h hx;omega) (step:=Kd ⟨t0,t1,out⟩ (gA t0 i)) (g:=λx=>idx out x) ho (mt:=λq=>(Ws q 0).bind λx14=>some x14) (λq=>by rw[show(0:Int)=((0:Nat):Int)from rfl,Tu (by omega)];rfl) (λa b=>by grind[Kd])
 simp_all
theorem AE{t0 t1:List Int}{t2:List Bool}(hs:nw t0 t1 t2 = -2):∃a b ok,Jd t0 t1 t2=some (a,b,ok)/\(0<=a/\a<(t0.length:Int))/\(0<=b/\b<(t0.length:Int)):=by
 have hc:fH t0 t1=0/\t2.length=t0.length:=Classical.byContradiction λh=>by
  simp_all[nw]
 have h:=PI hc.1;have hO:∀i,∀x∈gA t0 i,idx ((aad t0.length).map λ(k:Nat)=>O t0 t1 t2 (k:Int)) x=some (O t0 t1 t2 x):=λi x hx=>by
  have:=UC h hx;obtain⟨k,rfl⟩:=Wae this.2.1
  grind[Ba]
 have hpos:0<t0.length:=by
  unfold nw at hs;rw[if_pos hc]at hs;unfold ML at hs;have hsub:=Ys (t1:=t1) (out:=O t0 t1 t2) (l:=gA t0 (-1));generalize nr t1 (O t0 t1 t2) (gA t0 (-1))=r at hs hsub;rcases r with _|⟨x,q⟩
  .grind
  .have:=UC h (hsub x (by simp));omega
 unfold Jd;rw[rj,Jac,hs,if_neg (by simp),gG h hc.2,Jac,XR h (hO (-1)),Jac];have hm:∀i,∀y∈nr t1 (O t0 t1 t2) (gA t0 i),i<y/\0<=y/\y<(t0.length:Int):=λi y hy=>UC h (Ys y hy);obtain⟨b,h1,h2⟩:=QO (step:=Gf t0 t1 ((aad t0.length).map λ(k:Nat)=>O t0 t1 t2 (k:Int)))
  (λs=>∀y∈s,0<=y/\y<(t0.length:Int)) (λs=>match s with|[x]=>((t0.length:Int)-x).toNat|_=>0) (λb=>∀y∈b,0<=y/\y<(t0.length:Int)) (λs hi=>by
   unfold Gf;rcases s with _|⟨x,_|⟨y,q⟩⟩
   .simp
   .have hx:=hi x (by simp);left;rw[if_pos (by simp),show idx [x] 0=some x by simp[idx],Jac,XR h (hO x),Jac];refine⟨_,rfl,λy hy=>(hm x y hy).2,?_⟩;have hmx:=hm x;generalize nr t1 (O t0 t1 t2) (gA t0 x)=r at hmx;rcases r with _|⟨z,_|⟨w,q⟩⟩
    .simp_all
    .have:=hmx z (by simp);grind
    simp_all
   .exact .inr ⟨_,if_neg (by grind),hi⟩) _ _ (cad _) (λy hy=>(hm (-1) y hy).2)
 rw[h1,Jac];dsimp only;rcases b with _|⟨x,_|⟨y,q⟩⟩
 .exact⟨0,0,false,if_pos (by simp),by omega,by omega⟩
 .exact⟨0,0,false,if_pos (by simp),by omega,by omega⟩
 .rw[if_neg (by grind),Bh,NF];exact⟨x,y,true,rfl,h2 x (by simp),h2 y (by simp)⟩
theorem A1{n:Nat}{f:Nat->Bool}{ρ:Type}{step:List Bool×Int->Option (Ex (List Bool×Int) (List Bool) ρ)}(hs:∀i,i<n->∀a:List Bool,a.length=n->step (a,(i:Int))=some (.go (a.set i (f i),((i+1:Nat):Int)))) (he:∀a,step (a,(n:Int))=some (.brk a)) :
 da step (Nac n false,0)=some (.inl ((aad n).map f)):=by
 refine Lc (λi=>((aad n).map λk=>if k<i then f k else false,(i:Int))) n _ (λi hi=>?_) ?_ ?_
 .rw[hs i hi _ (by simp)];congr 3;apply lae (by simp)
  grind
 .simp_all
 .simp;apply lae (by simp);simp
def Mn(s:GScope) (i:Int):List GNode:=((s.Rules[i.toNat]?).map (·.Guard)).getD []
noncomputable def gT(e:List GNode) (env:GEnv):Bool:=if(e.length:Int)=0 then true else((Ra e env).map λp=>decide (p.2=0)&&(p.1.N==1)).getD false
noncomputable def nq(s:GScope) (rules:List Int) (env:GEnv):List Bool:=(aad rules.length).map λk=>gT (Mn s (rules.getD k 0)) env
theorem JF{s:GScope}{rules:List Int}{env:GEnv}{i:Nat}(hi:i<rules.length) (hm:∀x∈rules,0<=x/\x<(s.Rules.length:Int)) (ht:∀x∈rules,(Mn s x).length≠0->LB (Ra (Mn s x) env)) {a:List Bool}(ha:a.length=rules.length) :
 ((
  idx rules (i:Int)).bind λx5=>(idx s.Rules x5).bind λx6=>
  if(x6.Guard.length:Int)=0 then(idx a (i:Int)).bind λx8=>(put a (i:Int) true).bind λx9=>some x9
  else(Ra x6.Guard env).bind λx10=>if x10.2=0 then(idx a (i:Int)).bind λx12=>(put a (i:Int) (x10.1.N==1)).bind λx13=>some x13
   else(idx a (i:Int)).bind λx14=>(put a (i:Int) false).bind λx15=>some x15)=some (a.set i (gT (Mn s (rules.getD i 0)) env)):=by
 have hx:=hm _ (Qac hi);have hT:=ht _ (Qac hi);rw[Ba hi,Jac,Si hx.1 hx.2,Jac,Ba (by omega)];have eg:Mn s rules[i]=(s.Rules[rules[i].toNat]'(by omega)).Guard:=by grind[Mn]
 have er:rules.getD i 0=rules[i]:=by simp_all
 rw[er];rw[←eg];generalize Mn s rules[i]=e at hT⊢;unfold gT;by_cases h0:(e.length:Int)=0
 .simp_all[Vy]
 .obtain⟨p,hp,-⟩:=hT (by omega);rw[if_neg h0,if_neg h0,hp,Jac];by_cases h2:p.2=0
  all_goals simp_all[Vy]
theorem DA{l:GLaw}{s:GScope}{rules:List Int}{date:Int}{Qg:List GValue}(hr:rules.length<=1048576) (hm:∀x∈rules,0<=x/\x<(s.Rules.length:Int)) (ht:∀x∈rules,(Mn s x).length≠0->LB (Ra (Mn s x) ⟨date,Qg,[],[],[],l.Tables⟩)) :
 Hg l s rules date Qg=some (nq s rules ⟨date,Qg,[],[],[],l.Tables⟩):=by
 unfold Hg;rw[Sw (by omega) (by omega),Jac,A1 (step:=De l s rules date Qg) (f:=λk=>gT (Mn s (rules.getD k 0)) ⟨date,Qg,[],[],[],l.Tables⟩) (λi hi a ha=>by
  unfold De;dsimp only;rw[if_pos (by omega),JF hi hm ht ha,Jac,wa (by omega)]) (λa=>by simp_all[De])]
 rfl
def Er(fs:List GField) (g:List (List Int)) (c:List Int) (i:Nat):GValue:=⟨((fs[i]?).map (·.Type_.Kind)).getD 0,((fs[i]?).map (·.Type_.Enum)).getD 0,((g.getD i [])[(c.getD i 0).toNat]?).getD 0⟩
def Ep(fs:List GField) (g:List (List Int)) (c:List Int):List GValue:=(aad fs.length).map (Er fs g c)
theorem mb.get:∀{g:List (List Int)}{c:List Int},mb g c->∀i (h:i<g.length),∃h2:i<c.length,0<=c[i]/\c[i]<(g[i].length:Int)
 |l::g,a::r,h,0,_=>⟨by simp,h.1.1,h.1.2.1⟩
 |l::g,a::r,h,i+1,hi=>by
  obtain⟨h2,h3⟩:=mb.get h.2 i (by simpa using hi);exact⟨by simpa using h2,by simpa using h3⟩
theorem Ay{fs:List GField}{g:List (List Int)}{c:List Int}(hf:fs.length<=1048576) (hg:g.length=fs.length) (hc:mb g c) {step:List GValue×Int->Option (Ex (List GValue×Int) (List GValue) Unit)}
 (hs:∀a i,step (a,i)=if i<(fs.length:Int)then(idx fs i).bind λx13=>(idx g i).bind λx14=>(idx c i).bind λx15=>(idx x14 x15).bind λx16=>(app 24 a ([(GValue.mk x13.Type_.Kind x13.Type_.Enum x16)])).bind λx17=>some (Ex.go (x17,(ca .i64 (i+1))))else some (Ex.brk a)) :
 da step (([]:List GValue),0)=some (.inl (Ep fs g c)):=by
 refine Lc (λi=>((aad i).map (Er fs g c),(i:Int))) fs.length _ (λi hi=>?_) ?_ rfl
 .obtain⟨h2,h3,h4⟩:=hc.get i (by omega);rw[hs,if_pos (by omega),Ba hi,Jac,Ba (by omega),Jac,Ba h2,Jac,Si h3 h4,Jac,ui (by simp;omega),Jac,wa (by omega),List.range_succ,Qad];congr 4;unfold Er;simp[Lac hi,List.getD_eq_getElem?_getD,Lac h2,Lac (show i<g.length by omega),Lac (show c[i].toNat<g[i].length by omega)]
 .rw[hs,if_neg (by omega)];rfl
end Go.Proofs.Dev
