/-
  The functions as plain partial functions, and plain lemmas about them: no condition.
-/
import Derived.Test.YtnlamdfggbdblaaGreatDoorPB
import Derived.Test.YtnlamdfggbdblaaGreatDoorPA
open Bool renaming and_eq_true->laa,eq_false_iff->Lab,false_eq_true->haa,not_true->xab,true_and->Uaa,true_eq_false->saa
open Classical renaming not_not->vaa
open Int renaming eq_ofNat_of_zero_le->dab,mul_le_mul->hac,mul_nonneg->tad,natCast_one->Oac,reduceBEq->kaa,reduceEq->maa,reduceLE->naa,tdiv->Baa,tmod->Jaa,toNat_natCast->rab
open List renaming all_eq_true->Oaa,any_eq_false->ead,append_assoc->eab,drop_eq_getElem_cons->Taa,ext_getElem->rac,filter_append->iab,getElem?_append_right->Dab,getElem?_eq_getElem->caa,getElem?_eq_some_iff->yaa,getElem_mem->iaa,getElem_of_mem->Aaa,getElem_set_self->oac,length_append->Iaa,length_cons->Daa,length_filter_le->Qaa,length_nil->Waa,length_replicate->Raa,length_singleton->Saa,map_append->aab,mem_append->bab,mem_of_getElem?->Caa,pairwise_append->tac,range->uaa,replicate->gaa,replicate_succ->cab,replicate_succ'->Jab,set_append_right->Yab,set_cons_zero->Gab,take_add_one->Laa
open Nat renaming add_sub_cancel->aad,le_refl->oaa,mul_le_mul_right->Eaa,strongRecOn->aac,sub_self->Hab,succ_mul->Pac,zero_add->qab
open Option renaming any_some->Yaa,bind->baa,bind_some->aaa,toList_some->vab
open Option.some renaming inj->Faa,injEq->Maa
set_option linter.all false
set_option maxRecDepth 10000
set_option maxHeartbeats 1000000
namespace Go.Proofs.Dev
open Go Go.Tm
def neB(r:GDateRange):Bool:=decide (0<=r.From)&&(decide (r.To<=109573)&&decide (r.From<r.To))
def ends:List GDateRange->List Int
 |[]=>[]
 |r::l=>(if neB r=true then [r.From,r.To]else [])++ends l
theorem dI{α β:Type}{n:Nat}{l:List α}(hn:n=l.length) {step:List β×Int->Option (Ex (List β×Int) (List β) Unit)}(g:List α->List β) (x0:List β)
 (hgo:∀i (h:i<l.length),step (x0++g (l.take i),(i:Int))=some (.go (x0++g (l.take (i+1)),((i+1:Nat):Int)))) (hend:∀x,step (x,(n:Int))=some (.brk x)) (h0:g []=[]):fa step (x0,0)=some (.inl (x0++g l)):=by
 subst hn;refine Kc (λi=>(x0++g (l.take i),(i:Int))) l.length _ (λi hi=>hgo i hi) ?_ (by simp[h0]);rw[hend,List.take_length]
def known(t1:Int) (f:GFact):Bool:=decide (f.Recorded<=t1)&&neB f.Valid
def pF(r:GDateRange) (d:Int):Bool:=mN r&&(decide (r.From<=d)&&decide (d<r.To))
theorem Mp(r:GDateRange) (d:Int):Je r d=some (pF r d):=by
 grind[Je,pF,Tn]
theorem DA(r:GDateRange) (d:Int):Xi r d=some (pF r d):=by
 grind[Xi,pF,Fp]
def Bv(def_ date:Int) (r:GRule):Bool:=decide (r.Def=def_)&&pF r.Valid date
def Kd(rules:List GRule) (q:GRule->Bool):Nat->List Int×List Int×List Int
 |0=>([],[],gaa rules.length 0)
 |i+1=>
  match rules[i]? with
  |none=>Kd rules q i
  |some r=>
   let p:=Kd rules q i
   let anc:=if 0<=r.Parent/\r.Parent<(i:Int)then(p.2.2[r.Parent.toNat]?).getD 0 else -1
   if q r=true then(p.1++[(i:Int)],p.2.1++[anc],(p.2.2.set i anc).set i (p.1.length:Int))else(p.1,p.2.1,p.2.2.set i anc)
theorem Il{rules:List GRule}{q:GRule->Bool}:∀i,(Kd rules q i).2.2.length=rules.length/\(Kd rules q i).1.length<=i/\(Kd rules q i).2.1.length=(Kd rules q i).1.length
 |0=>by simp[Kd]
 |i+1=>by
  obtain⟨h1,h2,h3⟩:=Il (rules:=rules) (q:=q) i
  grind[Kd]
theorem Fo{rules:List GRule}{q:GRule->Bool}:∀i,∀x∈(Kd rules q i).1,0<=x/\x<(rules.length:Int)/\x<(i:Int)
 |0=>by simp[Kd]
 |i+1=>by
  have h:=Fo (rules:=rules) (q:=q) i;unfold Kd
  grind
theorem No{rules:List GRule}(hr:rules.length<=1048576) {f:GRule->Option Bool}{q:GRule->Bool}(hf:∀r,f r=some (q r)):xc rules f=some ((Kd rules q rules.length).1,(Kd rules q rules.length).2.1):=by
 unfold xc;rw[UB (by omega) (by omega),aaa];have hl:fa (Vd rules f) (([]:List Int),([]:List Int),gaa rules.length 0,0)=some (.inl ((Kd rules q rules.length).1,(Kd rules q rules.length).2.1)):=by
  refine Kc (λi=>((Kd rules q i).1,(Kd rules q i).2.1,(Kd rules q i).2.2,(i:Int))) rules.length _ (λi hi=>?_) (by grind[Vd]) rfl;obtain⟨h1,h2,h3⟩:=Il (rules:=rules) (q:=q) i;unfold Vd;simp only[Kd,caa hi];rw[if_pos (by omega),Ba hi,aaa,xa (by omega),hf];generalize rules[i]=r;have hanc:(baa (α:=Int) (baa (α:=Bool) (if 0<=r.Parent then some (decide (r.Parent<(i:Int)))else some false) λj9=>if j9=true then(idx (Kd rules q i).2.2 r.Parent).bind λx11=>some x11 else some (-1)) λj12=>some j12)=some (if 0<=r.Parent/\r.Parent<(i:Int)then((Kd rules q i).2.2[r.Parent.toNat]?).getD 0 else -1):=by
   by_cases g1:0<=r.Parent
   .by_cases g2:r.Parent<(i:Int)
    .rw[if_pos g1,aaa,if_pos (by simp_all),if_pos ⟨g1,g2⟩,Di g1 (by omega),caa (by omega)];rfl
    grind
   grind
  have hanc':(baa (α:=Bool) (if 0<=r.Parent then some (decide (r.Parent<(i:Int)))else some false) λj9=>if j9=true then(idx (Kd rules q i).2.2 r.Parent).bind λx11=>some x11 else some (-1))=some (if 0<=r.Parent/\r.Parent<(i:Int)then((Kd rules q i).2.2[r.Parent.toNat]?).getD 0 else -1):=by
   simp_all
  rw[hanc',aaa];generalize (if 0<=r.Parent/\r.Parent<(i:Int)then((Kd rules q i).2.2[r.Parent.toNat]?).getD 0 else -1)=anc;rw[Ba (i:=i) (by omega),aaa,dw (by omega),aaa,aaa];cases q r
  .simp
  .rw[if_pos rfl,Ba (i:=i) (by simp_all),aaa,dw (by simp_all),aaa,Xe (by grind),aaa,Xe (by grind),aaa];rfl
 simp_all
theorem tv{s:GScope}(hs:s.Rules.length<=1048576) (def_ date:Int):wk s def_ date=some (Kd s.Rules (Bv def_ date) s.Rules.length).1:=by
 unfold wk;have hl:fa (dj s def_ date) (([]:List Int),0)=some (.inl (Kd s.Rules (Bv def_ date) s.Rules.length).1):=by
  refine Kc (λi=>((Kd s.Rules (Bv def_ date) i).1,(i:Int))) s.Rules.length _ (λi hi=>?_) (by grind[dj]) rfl;obtain⟨h1,h2,h3⟩:=Il (rules:=s.Rules) (q:=Bv def_ date) i;unfold dj;simp only[Kd,caa hi];rw[if_pos (by omega),Ba hi,aaa,xa (by omega),DA];generalize s.Rules[i]=r;have hq:(if r.Def=def_ then(some (pF r.Valid date)).bind λx6=>some x6 else some false)=some (Bv def_ date r):=by
   grind[Bv]
  rw[hq,aaa];cases Bv def_ date r
  .simp
  .rw[if_pos rfl,Xe (by grind)];rfl
 simp_all
def upN(neg:Bool) (mode:Int) (q r d:Nat):Prop:=
 (mode=0/\neg=true/\0<r)\/(mode=1/\neg=false/\0<r)\/(mode=3/\0<r)\/(mode=4/\d<=r+r)\/(mode=5/\(d<r+r\/(d=r+r/\q % 2=1)))
instance (neg:Bool) (mode:Int) (q r d:Nat):Decidable (upN neg mode q r d):=by unfold upN;infer_instance
def upF(mode q r d:Int):Prop:=
 r≠0/\(mode=1\/(mode=2/\q<0)\/(mode=3/\0<=q)\/(mode=4/\(d-r<r\/(r=d-r/\0<=q)))\/(mode=5/\(d-r<r\/(r=d-r/\q % 2≠0))))
instance (mode q r d:Int):Decidable (upF mode q r d):=by unfold upF;infer_instance
theorem sP{σ β ρ:Type}{step:σ->Option (Ex σ β ρ)}(I:σ->Prop) (mu:σ->Nat) (Q:β->Prop) (h:∀s,I s->(∃s',step s=some (.go s')/\I s'/\mu s'<mu s)\/∃b,step s=some (.brk b)/\Q b) :
 ∀(n:Nat) (s:σ),mu s<=n->I s->∃b,fa step s=some (.inl b)/\Q b
 |0,s,hn,hi=>by
  rcases h s hi with⟨s',-,-,h3⟩|⟨b,h1,h2⟩
  .omega
  .exact⟨b,Nc h1,h2⟩
 |n+1,s,hn,hi=>by
  rcases h s hi with⟨s',h1,h2,h3⟩|⟨b,h1,h2⟩
  .obtain⟨b,h4,h5⟩:=sP I mu Q h n s' (by omega) h2;exact⟨b,by rw[Yd h1];exact h4,h5⟩
  .exact⟨b,Nc h1,h2⟩
def inside(r:GDateRange) (x:Int):Bool:=decide (r.From<x)&&decide (x<r.To)
theorem l7{σ1 σ2 β1 β2 ρ1 ρ2:Type}{s1:σ1->Option (Ex σ1 β1 ρ1)}{s2:σ2->Option (Ex σ2 β2 ρ2)}(I:σ1->σ2->Prop) (mu:σ1->Nat) (QB:β1->β2->Prop) (QR:ρ1->ρ2->Prop)
 (h:∀x y,I x y->(∃x' y',s1 x=some (.go x')/\s2 y=some (.go y')/\I x' y'/\mu x'<mu x)\/(∃b c,s1 x=some (.brk b)/\s2 y=some (.brk c)/\QB b c)\/∃b c,s1 x=some (.ret b)/\s2 y=some (.ret c)/\QR b c) :
 ∀(n:Nat) x y,mu x<=n->I x y->(∃b c,fa s1 x=some (.inl b)/\fa s2 y=some (.inl c)/\QB b c)\/∃b c,fa s1 x=some (.inr b)/\fa s2 y=some (.inr c)/\QR b c:=by
 intro n
 induction n with
 |zero=>
  grind[Nc,cr]
 |succ n ih=>
  grind[Yd,Nc,cr]
def Qd(v:GValue):Prop:=
 (v.Kind=1/\v.Enum=0/\0<=v.N/\v.N<=1)\/(v.Kind=2/\v.Enum=0/\-1000000000000<=v.N/\v.N<=1000000000000)\/(v.Kind=3/\v.Enum=0/\-1000000000000000<=v.N/\v.N<=1000000000000000)\/
 (v.Kind=4/\v.Enum=0/\-1000000000<=v.N/\v.N<=1000000000)\/(v.Kind=5/\v.Enum=0/\0<=v.N/\v.N<=109572)\/(v.Kind=6/\0<=v.Enum/\v.Enum<8/\0<=v.N/\v.N<16)
instance (v:GValue):Decidable (Qd v):=by unfold Qd;infer_instance
def Nn(v:GValue):Bool:=decide (Qd v)
theorem FK{a b:Prop} [Decidable a] [Decidable b]:(baa (α:=Bool) (if a then some (decide b)else some false) λj=>some j)=some (decide (a/\b)):=by
 grind
theorem Z9{a:Prop} [Decidable a] {b:Bool}:(if¬a then some b else some false)=some (!decide a&&b):=by
 grind
theorem wc(v:GValue):Ub v=some (Nn v):=by
 obtain⟨K,E,N⟩:=v;unfold Ub Nn Qd;simp only[FK,Z9,aaa]
 grind[decide]
theorem Rg(v:GValue):Rb v=some (Nn v):=by
 obtain⟨K,E,N⟩:=v;unfold Rb Yq Nn Qd
 grind[decide]
theorem TZ{l:List GValue}(hl:l.length<=1048576):Wd l=some (l.all Nn)/\fa (aj l) 0=some (if l.all Nn=true then .inl ()else .inr (⟨0,0,0⟩,8)):=by
 have e1:fa (Zb l) 0=some (Vb () (ff (λi=>if(l[i]?.any λv=>!Nn v)=true then some false else none) l.length)):=
  Kb (λi=>(i:Int)) _ l.length () (λi hi _=>by
   unfold Zb;rw[if_pos (by omega),Ba hi,caa hi]
   grind[lC,wc,xa]) (λ_=>by grind[Zb])
 have e2:fa (aj l) 0=some (Vb () (ff (λi=>if(l[i]?.any λv=>!Nn v)=true then some ((⟨0,0,0⟩,8):GValue×Int)else none) l.length)):=
  Kb (λi=>(i:Int)) _ l.length () (λi hi _=>by
   unfold aj;rw[if_pos (by omega),Ba hi,caa hi]
   grind[lC,Rg,xa]) (λ_=>by grind[aj])
 unfold Wd;rw[e1,e2];by_cases h:l.all Nn=true
 .have hn:∀i,i<l.length->(l[i]?.any λv=>!Nn v)=false:=by
   simp_all
  rw[Xb.2 (λi hi=>by simp_all),Xb.2 (λi hi=>by simp_all),h];exact⟨rfl,rfl⟩
 .have hb:l.all Nn=false:=by simp_all
  obtain⟨x,hx,hx2⟩:∃x∈l,Nn x=false:=by
   simp_all
  obtain⟨k,hk,rfl⟩:=Aaa hx;have ne:∀{ρ:Type} (v:ρ),ff (λi=>if(l[i]?.any λv=>!Nn v)=true then some v else none) l.length=some v:=by
   intro ρ v
   cases hf:ff (λi=>if(l[i]?.any λv=>!Nn v)=true then some v else none) l.length with
   |none=>
    grind[Xb]
   |some w=>
    obtain⟨i,_,h2,_⟩:=Ta.1 hf
    simp_all
  rw[ne,ne,hb];exact⟨rfl,rfl⟩
def pN(n:GNode):Bool:=
 decide (n.N=0\/cc n.Op=true)&&decide ((14<=n.Op/\n.Op<=16->0<=n.N/\n.N<=5)/\(n.Op=34->0<=n.N/\n.N % 8<=5)/\(n.Op=6->0<=n.N))
theorem C8{n:GNode}:(baa (α:=Bool) (if n.Op=14 then some true else if n.Op=15 then some true else some (n.Op==16)) λj9=>
 if j9=true then baa (α:=Bool) (if 0<=n.N then some (decide (n.N<=5))else some false) λj12=>some j12
 else if n.Op=34 then baa (α:=Bool) (if 0<=n.N then some (decide ((Jaa n.N 8)<=5))else some false) λj15=>some j15
 else if n.Op=6 then some (decide (0<=n.N))else some true)=some (decide ((14<=n.Op/\n.Op<=16->0<=n.N/\n.N<=5)/\(n.Op=34->0<=n.N/\n.N % 8<=5)/\(n.Op=6->0<=n.N))):=by
 obtain⟨op,N⟩:=n;dsimp only;simp only[FK];by_cases h14:op=14
 .simp_all
 by_cases h15:op=15
 .simp_all
 by_cases h16:op=16
 .simp_all
 by_cases h34:op=34
 .subst h34;simp
  grind
 by_cases h6:op=6
 .simp_all
 simp[h14,h15,h16,h34,h6];omega
theorem AL{op:Int}(h:1<=op/\op<=39):0<=pb op:=by
 grind[pb]
theorem Iw(n:GNode):Pj n=some (decide (1<=n.Op/\n.Op<=39)&&pN n):=by
 unfold Pj;rw[fg,aaa,C8];by_cases h:1<=n.Op/\n.Op<=39
 .have:=AL h;rw[if_pos (by omega),Ha h,decide_eq_true h,Uaa];unfold pN;by_cases hN:n.N=0
  .grind
  .cases hu:cc n.Op<;>simp[hN]
 grind[Dw]
theorem HD(n:GNode) (k:Nat):so n k=some (decide (1<=n.Op/\n.Op<=39)&&(decide (pb n.Op=k)&&pN n)):=by
 unfold so;rw[Gp,aaa,C8];by_cases h:1<=n.Op/\n.Op<=39
 .have hm:Km n.Op=some (cc n.Op):=by
   rcases Iz h with h|h|h|h|h|h|h|h|h|h|h|h|h|h|h|h|h|h|h|h|h|h|h|h|h|h|h|h|h|h|h|h|h|h|h|h|h|h|h<;>rw[h]<;>simp[Km,cc]
  rw[hm,decide_eq_true h,Uaa];unfold pN;by_cases hk:pb n.Op=k
  .rw[if_pos hk,decide_eq_true hk,Uaa];by_cases hN:n.N=0
   .grind
   .cases hu:cc n.Op<;>simp[hN]
  simp_all
 simp_all[Dw]
def Ko(n:GNode) (env:GEnv):Bool:=
 if n.Op=7 then decide (0<=n.N/\n.N<(env.Inputs.length:Int))else
 if n.Op=8 then decide (0<=n.N/\n.N<(env.Defs.length:Int))&&!(((env.Defs[n.N.toNat]?).map (·.Kind)).getD 0==0)else
 if n.Op=33 then decide (0<=n.N/\n.N<(env.Tables.length:Int))else
 if n.Op=34 then decide (ea .i64 (Baa n.N 8)<(env.Tables.length:Int))else
 if 36<=n.Op/\n.Op<=39 then decide (0<=n.N/\n.N<(env.MemberTypes.length:Int))else true
theorem sT{op:Int}{α:Type}{k:Bool->Option α}:(baa (α:=Bool) (if op=36 then some true else if op=37 then some true else if op=38 then some true else some (op==39)) k)=k (decide (36<=op/\op<=39)):=by
 by_cases h1:op=36
 .simp_all
 by_cases h2:op=37
 .simp_all
 by_cases h3:op=38
 .simp_all
 by_cases h4:op=39
 .simp_all
 rw[if_neg h1,if_neg h2,if_neg h3,aaa]
 grind[decide_eq_false_iff_not]
theorem Ct(n:GNode) (env:GEnv):Qp n env=some (Ko n env):=by
 unfold Qp Ko;simp only[sT,FK];split
 .rfl
 split
 .by_cases h0:0<=n.N
  .by_cases h1:n.N<(env.Defs.length:Int)
   .rw[if_pos h0,if_pos h1,Di h0 h1,caa (by omega)];grind
   grind
  grind
 grind
theorem PE(n:GNode) (env:GEnv):aq n env=some (Ko n env):=by
 unfold aq Ko;simp only[sT,FK];split
 .rfl
 split
 .by_cases h0:0<=n.N
  .by_cases h1:n.N<(env.Defs.length:Int)
   .rw[if_pos h0,if_pos h1,Di h0 h1,caa (by omega)];grind
   grind
  grind
 grind
noncomputable def Xc(n:GNode) (args:List GValue) (env:GEnv):Option (GValue×Int):=
 (sa n args env).bind λa=>if a=false then some (⟨0,0,0⟩,8)else
 (Ia n args env).bind λx=>if¬x.2=0 then some (⟨0,0,0⟩,x.2)else
 if Nn x.1=false then some (⟨0,0,0⟩,3)else some (x.1,0)
noncomputable def Gk(n:GNode):List GValue->GEnv->Option (GValue×Int)
 |[],env=>if 36<=n.Op/\n.Op<=39 then Hp n env else zi n env
 |[a],env=>cm n a env
 |[a,b],_=>Xh n a b
 |[a,b,c],_=>if a.Kind=1/\b.Kind=c.Kind/\b.Enum=c.Enum then(if a.N=1 then some (b,0)else some (c,0))else some (⟨0,0,0⟩,8)
 |_,_=>none
def It(e r:Option (GValue×Int)):Prop:=∃p,e=some p/\r=some p/\(p.2=0->Qd p.1)
theorem kr{c:Int}(h:c≠0):It (some (⟨0,0,0⟩,c)) (some (⟨0,0,0⟩,c)):=⟨_,rfl,rfl,λh2=>absurd h2 h⟩
theorem Dq{x:Option (GValue×Int)}:(x.bind λy=>some (y.1,y.2))=x:=by cases x<;>rfl
theorem TI{n:GNode}{args:List GValue}{env:GEnv}(ha:args.length<=3) (h:1<=n.Op/\n.Op<=39->pb n.Op=args.length->pN n=true->Ko n env=true->(∀a∈args,Qd a)->It (Xc n args env) (Gk n args env)):It (ab n args env) (Cl n args env):=by
 unfold ab Cl;obtain⟨a1,a2⟩:=TZ (l:=args) (by omega);rw[Iw,fg,Ct,HD,PE,a1,a2];simp only[aaa];by_cases h1:1<=n.Op/\n.Op<=39
 case neg=>grind[kr]
 rw[decide_eq_true h1];simp only[Uaa];by_cases h2:pN n=true
 case neg=>rw[Lab.2 h2];simp_all[kr]
 rw[h2];simp only[Bool.and_true,if_true];by_cases h3:pb n.Op=args.length
 case neg=>
  grind[kr]
 have:((args.length:Int) !=pb n.Op)=false:=by grind
 rw[this,decide_eq_true h3];simp only[aaa,haa,if_false,saa];by_cases h4:Ko n env=true
 case neg=>rw[Lab.2 h4];grind[kr]
 rw[h4];simp only[saa,if_false];by_cases h5:args.all Nn=true
 case neg=>rw[Lab.2 h5];grind[kr]
 rw[h5];simp only[if_true];have hp:∀a∈args,Qd a:=λa ha=>of_decide_eq_true (Oaa.1 h5 a ha);have hc:=h h1 h3 h2 h4 hp;have e1:(baa (α:=Bool) ((sa n args env).bind λx10=>some (!x10)) λj11=>if j11=true then some ((⟨0,0,0⟩:GValue),(8:Int))else(Ia n args env).bind λx13=>if¬x13.2=0 then some (⟨0,0,0⟩,x13.2)else(Ub x13.1).bind λx15=>if x15=false then some (⟨0,0,0⟩,3)else some (x13.1,0))=Xc n args env:=by
  unfold Xc
  cases sa n args env with
  |none=>rfl
  |some b=>
   grind[wc]
 rw[e1];rcases args with _|⟨a,_|⟨b,_|⟨c,_|⟨d,l⟩⟩⟩⟩
 .simp only[Waa,Int.natCast_zero,if_true]
  grind[Gk,Dq]
 all_goals grind[Gk,wg,Dq,mD,jY]
def Hk(v:GValue):GValue×Int:=if Nn v=true then(v,0)else(⟨0,0,0⟩,3)
theorem HG(k n:Int):Oe k n=some (Hk ⟨k,0,n⟩):=by
 grind[Oe,Hk,Rg]
theorem OK(v:GValue):(Hk v).2=0->Qd (Hk v).1:=by
 grind[Hk,Nn]
theorem EL(v:GValue):It (some (Hk v)) (some (Hk v)):=⟨_,rfl,rfl,OK v⟩
theorem mr{n:GNode}{args:List GValue}{env:GEnv}(h:sa n args env=some true) {v:GValue}{e:Int}(hc:Ia n args env=some (v,e)):Xc n args env=some (if e=0 then Hk v else(⟨0,0,0⟩,e)):=by
 grind[Xc,Hk]
theorem Wy{n:GNode}{args:List GValue}{env:GEnv}(h:sa n args env=some false):Xc n args env=some (⟨0,0,0⟩,8):=by
 grind[Xc]
theorem Qy{n:GNode}{args:List GValue}{env:GEnv}(h:sa n args env=some true) {v:GValue}{e:Int}(hc:Ia n args env=some (v,e)) (hr:Gk n args env=some (if e=0 then Hk v else(⟨0,0,0⟩,e))):It (Xc n args env) (Gk n args env):=by
 rw[mr h hc,hr];by_cases h0:e=0
 all_goals simp_all[EL,kr]
theorem XF{n:GNode}{args:List GValue}{env:GEnv}(h:sa n args env=some false) (hr:Gk n args env=some (⟨0,0,0⟩,8)):It (Xc n args env) (Gk n args env):=by
 grind[Wy,kr]
theorem pT{v:GValue}(h:Qd v):Hk v=(v,0):=if_pos (decide_eq_true h)
theorem fO{op N:Int}{env:GEnv}(h:1<=op/\op<=5):It (Xc ⟨op,N⟩ [] env) (Gk ⟨op,N⟩ [] env):=by
 refine Qy (v:=⟨op,0,N⟩) (e:=0) ?_ ?_ ?_
 .have:op=1\/op=2\/op=3\/op=4\/op=5:=by omega
  rcases this with rfl|rfl|rfl|rfl|rfl<;>simp[sa]
 .have:op=1\/op=2\/op=3\/op=4\/op=5:=by omega
  rcases this with rfl|rfl|rfl|rfl|rfl<;>simp[Ia]
 .unfold Gk;dsimp only;rw[if_neg (by omega),if_pos rfl];unfold zi;dsimp only;rw[if_neg (by omega),if_neg (by omega),if_neg (by omega),if_neg (by omega),if_neg (by omega),HG];rfl
theorem cX{N:Int}{env:GEnv}:It (Xc ⟨6,N⟩ [] env) (Gk ⟨6,N⟩ [] env):=by
 refine Qy (v:=⟨6,ea .i64 (Baa N 16),Jaa N 16⟩) (e:=0) (by simp[sa]) (by simp[Ia]) ?_
 grind[Gk,zi,Hk,Rg]
theorem dX{N:Int}{env:GEnv}(hf:Ko ⟨7,N⟩ env=true):It (Xc ⟨7,N⟩ [] env) (Gk ⟨7,N⟩ [] env):=by
 simp only[Ko,if_true,decide_eq_true_eq]at hf
 grind[sa,Ia,Gk,zi,Hk,Di,Qy,wc,Rg,XF]
theorem sq(k:Int):mg k=some (decide (2<=k/\k<=4)):=by
 unfold mg;by_cases h2:k=2
 .simp_all
 by_cases h3:k=3
 .simp_all
 rw[if_pos h2,if_pos h3,aaa]
 grind[decide_eq_false]
theorem pw(k:Int):Dj k=some (decide (2<=k/\k<=4)):=by
 unfold Dj;by_cases h2:k=2
 .simp_all
 by_cases h3:k=3
 .simp_all
 rw[if_pos h2,if_pos h3,aaa]
 grind[decide_eq_false]
theorem td(b:Bool):Of b=some ⟨1,0,if b=true then 1 else 0⟩:=by cases b<;>rfl
theorem Lm(b:Bool):lf b=some (⟨1,0,if b=true then 1 else 0⟩,0):=by cases b<;>rfl
theorem nn(b:Bool):Hk ⟨1,0,if b=true then 1 else 0⟩=(⟨1,0,if b=true then 1 else 0⟩,0):=by cases b<;>exact pT (by decide)
theorem bS{N:Int}{a:GValue}{env:GEnv}(ha:Qd a):It (Xc ⟨25,N⟩ [a] env) (Gk ⟨25,N⟩ [a] env):=by
 by_cases hn:a.Kind=1
 .refine Qy (v:=⟨1,0,if(a.N==0)=true then 1 else 0⟩) (e:=0) (by grind[sa,Ac,wg]) (by simp only[Ia,maa,if_false,aaa,kaa,haa,wg,Xo,td,Daa,Waa,if_true,qab,Oac]) ?_;rw[nn]
  simp_all[Gk,cm,Lm]
 grind[sa,Ac,Gk,cm,XF,wg]
def FB(e:Option (GValue×Int)):Prop:=∃p,e=some p/\(p.2=0->Qd p.1)
theorem mE{n:GNode}{args:List GValue}{env:GEnv}(h:sa n args env=some true) {v:GValue}{e:Int}(hc:Ia n args env=some (v,e)):FB (Xc n args env):=by
 rw[mr h hc];by_cases h0:e=0
 .rw[if_pos h0];exact⟨_,rfl,OK v⟩
 .rw[if_neg h0];exact⟨_,rfl,λh2=>absurd h2 h0⟩
theorem lK{n:GNode}{args:List GValue}{env:GEnv}(h:sa n args env=some false):FB (Xc n args env):=by
 rw[Wy h];exact⟨_,rfl,λh2=>absurd h2 (by decide)⟩
theorem gV{N:Int}{env:GEnv}:FB (Xc ⟨6,N⟩ [] env):=by
 exact mE (v:=⟨6,ea .i64 (Baa N 16),Jaa N 16⟩) (e:=0) (by simp[sa]) (by simp[Ia])
theorem iV{N:Int}{env:GEnv}(hf:Ko ⟨7,N⟩ env=true):FB (Xc ⟨7,N⟩ [] env):=by
 simp only[Ko,if_true,decide_eq_true_eq]at hf;have hi:idx env.Inputs N=some (env.Inputs[N.toNat]'(by omega)):=Di hf.1 hf.2;generalize env.Inputs[N.toNat]'(by omega)=v at hi;by_cases hv:Nn v=true
 .exact mE (v:=v) (e:=0) (by grind[sa,wc]) (by grind[Ia])
 grind[sa,lK,wc]
theorem jR{N:Int}{a:GValue}{env:GEnv}(ha:Qd a):FB (Xc ⟨25,N⟩ [a] env):=by
 by_cases hn:a.Kind=1
 .exact mE (v:=⟨1,0,if(a.N==0)=true then 1 else 0⟩) (e:=0) (by grind[sa,Ac,wg]) (by simp only[Ia,maa,if_false,aaa,kaa,haa,wg,Xo,td,Daa,Waa,if_true,qab,Oac])
 grind[sa,Ac,lK,wg]
theorem iN{op N:Int}{env:GEnv}(h:1<=op/\op<=5):FB (Xc ⟨op,N⟩ [] env):=by
 refine mE (v:=⟨op,0,N⟩) (e:=0) ?_ ?_
 .have:op=1\/op=2\/op=3\/op=4\/op=5:=by omega
  rcases this with rfl|rfl|rfl|rfl|rfl<;>simp[sa]
 .have:op=1\/op=2\/op=3\/op=4\/op=5:=by omega
  rcases this with rfl|rfl|rfl|rfl|rfl<;>simp[Ia]
theorem CN{op N:Int}{a b:GValue}{env:GEnv}(h:(11<=op/\op<=24)\/(27<=op/\op<=30)):sa ⟨op,N⟩ [a,b] env=ic op a b:=by
 unfold sa;dsimp only;rw[if_neg (by omega),if_neg (by omega),if_neg (by omega),if_neg (by omega),sT,decide_eq_false (by omega),if_neg (by simp),if_neg (by simp),if_pos (by simp),wg,mD,aaa,aaa];simp
theorem gG{op N:Int}{a b:GValue}{env:GEnv}(h:(11<=op/\op<=24)\/(27<=op/\op<=30)):Ia ⟨op,N⟩ [a,b] env=Hd ⟨op,N⟩ a b:=by
 unfold Ia;dsimp only;have h5:(op==5)=false:=by grind
 rw[if_neg (by omega),if_neg (by omega),if_neg (by omega),if_neg (by omega),h5,aaa,if_neg (by simp),if_neg (by omega),if_neg (by omega),if_neg (by omega),if_neg (by omega),if_neg (by omega),sT,decide_eq_false (by omega),if_neg (by simp),if_neg (by omega),if_neg (by omega),if_neg (by simp),if_pos (by simp),wg,mD,aaa,aaa,Dq]
def TG(a b:GValue):Prop:=a.Kind=b.Kind/\a.Enum=b.Enum
instance (a b:GValue):Decidable (TG a b):=by unfold TG;infer_instance
theorem Oj(a b:GValue):ng a b=some (decide (TG a b)):=by
 unfold ng TG;by_cases h1:a.Kind=b.Kind<;>by_cases h2:a.Enum=b.Enum<;>simp[h1,h2]
theorem N8{a b:GValue}{α:Type}{k:Bool->Option α}:(baa (α:=Bool) (if a.Kind=b.Kind then some (a.Enum !=b.Enum)else some true) k)=k (decide (¬TG a b)):=by
 unfold TG;by_cases h1:a.Kind=b.Kind
 .rw[if_pos h1,aaa];congr 1
  grind
 simp_all
theorem It.ite{c:Prop} [Decidable c] {n:GNode}{args:List GValue}{env:GEnv}{v:GValue}{e:Int}(hal:sa n args env=some (decide c)) (hco:c->Ia n args env=some (v,e)) (hre:Gk n args env=if c then some (if e=0 then Hk v else(⟨0,0,0⟩,e))else some (⟨0,0,0⟩,8)):It (Xc n args env) (Gk n args env):=by
 by_cases h:c
 .rw[decide_eq_true h]at hal;rw[if_pos h]at hre
  grind[Qy]
 .rw[decide_eq_false h]at hal;rw[if_neg h]at hre
  grind[XF]
theorem jG{a b:Prop} [Decidable a] [Decidable b]:(if decide a=true then some (decide b)else some false)=some (decide (a/\b)):=by
 grind
theorem ZR{op N:Int}{a b:GValue}{env:GEnv}(hop:op=19\/op=20) (ha:Qd a) (hb:Qd b):It (Xc ⟨op,N⟩ [a,b] env) (Gk ⟨op,N⟩ [a,b] env):=by
 have hal:sa ⟨op,N⟩ [a,b] env=some (decide (TG a b)):=by
  rw[CN (by omega)];rcases hop with rfl|rfl<;>simp only[ic,maa,if_true,if_false,aaa,Oj,kaa,haa]
 rcases hop with rfl|rfl
 .refine It.ite (v:=⟨1,0,if(a.N==b.N)=true then 1 else 0⟩) (e:=0) hal (λ_=>?_) ?_
  .simp_all[Hd,gG,td]
  .simp only[Gk,Xh,decide_true,decide_false,Sg,N8,naa,maa,kaa,if_true,if_false,aaa,haa,Lm,Dq,nn];simp
 .refine It.ite (v:=⟨1,0,if(a.N !=b.N)=true then 1 else 0⟩) (e:=0) hal (λ_=>?_) ?_
  .simp_all[Hd,gG,td]
  .simp only[Gk,Xh,decide_true,decide_false,Sg,N8,naa,maa,kaa,if_true,if_false,aaa,haa,Lm,Dq,nn];simp
theorem aS{op N:Int}{a b:GValue}{env:GEnv}(hop:op=21\/op=22) (ha:Qd a) (hb:Qd b):It (Xc ⟨op,N⟩ [a,b] env) (Gk ⟨op,N⟩ [a,b] env):=by
 have hk:(2<=a.Kind/\a.Kind<=5)↔((2<=a.Kind/\a.Kind<=4)\/a.Kind=5):=by omega
 have hal:sa ⟨op,N⟩ [a,b] env=some (decide (TG a b/\2<=a.Kind/\a.Kind<=5)):=by
  rw[CN (by omega)];rcases hop with rfl|rfl<;>simp only[ic,maa,if_true,if_false,aaa,Oj,sq,jG,kaa,haa,hk]
  all_goals grind
 rcases hop with rfl|rfl
 .refine It.ite (v:=⟨1,0,if decide (a.N<b.N)=true then 1 else 0⟩) (e:=0) hal (λ_=>?_) ?_
  .simp_all[Hd,gG,td]
  .simp only[Gk,Xh,decide_true,decide_false,Sg,N8,pw,naa,maa,kaa,if_true,if_false,aaa,haa,Lm,Dq,nn,hk]
   grind
 .refine It.ite (v:=⟨1,0,if decide (a.N<=b.N)=true then 1 else 0⟩) (e:=0) hal (λ_=>?_) ?_
  .simp_all[Hd,gG,td]
  .simp only[Gk,Xh,decide_true,decide_false,Sg,N8,pw,naa,maa,kaa,if_true,if_false,aaa,haa,Lm,Dq,nn,hk]
   grind
theorem FB.ite{c:Prop} [Decidable c] {n:GNode}{args:List GValue}{env:GEnv}{v:GValue}{e:Int}(hal:sa n args env=some (decide c)) (hco:c->Ia n args env=some (v,e)):FB (Xc n args env):=by
 by_cases h:c
 all_goals grind[mE,lK]
theorem gR{op N:Int}{a b:GValue}{env:GEnv}(hop:op=19\/op=20):FB (Xc ⟨op,N⟩ [a,b] env):=by
 have hal:sa ⟨op,N⟩ [a,b] env=some (decide (TG a b)):=by
  rw[CN (by omega)];rcases hop with rfl|rfl<;>simp only[ic,maa,if_true,if_false,aaa,Oj,kaa,haa]
 rcases hop with rfl|rfl
 .refine FB.ite (v:=⟨1,0,if(a.N==b.N)=true then 1 else 0⟩) (e:=0) hal (λ_=>?_)
  simp_all[Hd,gG,td]
 .refine FB.ite (v:=⟨1,0,if(a.N !=b.N)=true then 1 else 0⟩) (e:=0) hal (λ_=>?_)
  simp_all[Hd,gG,td]
theorem iR{op N:Int}{a b:GValue}{env:GEnv}(hop:op=21\/op=22):FB (Xc ⟨op,N⟩ [a,b] env):=by
 have hk:(2<=a.Kind/\a.Kind<=5)↔((2<=a.Kind/\a.Kind<=4)\/a.Kind=5):=by omega
 have hal:sa ⟨op,N⟩ [a,b] env=some (decide (TG a b/\2<=a.Kind/\a.Kind<=5)):=by
  rw[CN (by omega)];rcases hop with rfl|rfl<;>simp only[ic,maa,if_true,if_false,aaa,Oj,sq,jG,kaa,haa,hk]
  all_goals grind
 rcases hop with rfl|rfl
 .refine FB.ite (v:=⟨1,0,if decide (a.N<b.N)=true then 1 else 0⟩) (e:=0) hal (λ_=>?_)
  simp_all[Hd,gG,td]
 .refine FB.ite (v:=⟨1,0,if decide (a.N<=b.N)=true then 1 else 0⟩) (e:=0) hal (λ_=>?_)
  simp_all[Hd,gG,td]
theorem K7(def_ date:Int) (r:GRule):Hc r def_ date=some (Bv def_ date r):=by
 grind[Hc,Bv,Mp]
theorem fx{s:GScope}(hs:s.Rules.length<=1048576) (def_ date:Int):Ef s def_ date=some (Kd s.Rules (Bv def_ date) s.Rules.length).1:=by
 grind[Ef,No,K7]
def dD(s:GScope) (l:List Int):List (List GNode):=(l.map λi=>((s.Rules[i.toNat]?).map (·.Guard)).getD []).filter λg=>decide (0<g.length)
theorem SH{s:GScope}{l:List Int}(hl:l.length<=1048576) (hm:∀x∈l,0<=x/\x<(s.Rules.length:Int)) {step:List (List GNode)×Int->Option (Ex (List (List GNode)×Int) (List (List GNode)) Unit)}
 (hstep:step=Ze s l):fa step (([]:List (List GNode)),0)=some (.inl (dD s l)):=by
 subst hstep;have hlen:∀k,(dD s (l.take k)).length<=k:=λk=>by
  grind[dD]
 refine Kc (λi=>(dD s (l.take i),(i:Int))) l.length _ (λi hi=>?_) (by grind[Ze]) rfl;have hx:=hm _ (iaa hi);have:=hlen i;have ht:dD s (l.take (i+1))=dD s (l.take i)++(if 0<(s.Rules[l[i].toNat]'(by omega)).Guard.length then [(s.Rules[l[i].toNat]'(by omega)).Guard]else []):=by
  unfold dD;rw[Laa,caa hi,vab,aab,iab,List.map_singleton,caa (l:=s.Rules) (by omega)]
  grind
 unfold Ze;simp only;rw[if_pos (by omega),Ba hi,aaa,Di hx.1 hx.2,aaa,xa (by omega),ht];by_cases h0:0<(s.Rules[l[i].toNat]'(by omega)).Guard.length
 .rw[if_pos (by omega),if_pos h0,Xe (by grind)];rfl
 simp_all
noncomputable def Yo(s:GScope) (def_ date:Int):List (List GNode):=dD s (Kd s.Rules (Bv def_ date) s.Rules.length).1
theorem Tw{s:GScope}(hs:s.Rules.length<=1048576) (def_ date:Int):Ah s def_ date=some (Yo s def_ date):=by
 unfold Ah;have hm:=Fo (rules:=s.Rules) (q:=Bv def_ date) s.Rules.length;have hl:=(Il (rules:=s.Rules) (q:=Bv def_ date) s.Rules.length).2.1;rw[fx hs,aaa,SH (by omega) (λx hx=>⟨(hm x hx).1,(hm x hx).2.1⟩) rfl];rfl
theorem ND{s:GScope}(hs:s.Rules.length<=1048576) (def_ date:Int):Bo s def_ date=some (Yo s def_ date):=by
 unfold Bo;have hm:=Fo (rules:=s.Rules) (q:=Bv def_ date) s.Rules.length;have hl:=(Il (rules:=s.Rules) (q:=Bv def_ date) s.Rules.length).2.1;rw[tv hs,aaa,SH (s:=s) (l:=(Kd s.Rules (Bv def_ date) s.Rules.length).1) (step:=xq s _) (by omega) (λx hx=>⟨(hm x hx).1,(hm x hx).2.1⟩) rfl];rfl
theorem RH{s:GScope}{def_ date:Int}{g:List GNode}(h:g∈Yo s def_ date):∃r∈s.Rules,r.Guard=g:=by
 unfold Yo dD at h
 grind
theorem pz(s:GScope) (def_ date:Int):(Yo s def_ date).length<=s.Rules.length:=by
 grind[Yo,dD,Il]
theorem fG{l:List GEnum}(hl:l.length<=1048576) (hm:∀x∈l,x.Members.length<=1099511627776):ml l=some l:=by
 unfold ml;have h1:fa (Oh l) (([]:List GEnum),0)=some (.inl l):=by
  refine Kc (λi=>(l.take i,(i:Int))) l.length _ (λi hi=>?_) (by grind[Oh]) rfl;unfold Oh ee;simp only;rw[if_pos (by omega),Ba hi,aaa,if_pos (hm _ (iaa hi)),aaa,Xe (by grind),aaa,xa (by omega),Laa,caa hi];rfl
 simp_all
theorem yE{l:List GTable}(hl:l.length<=1048576) (hm:∀x∈l,x.Rows.length<=1099511627776):Qj l=some l:=by
 unfold Qj;have h1:fa (Ng l) (([]:List GTable),0)=some (.inl l):=by
  refine Kc (λi=>(l.take i,(i:Int))) l.length _ (λi hi=>?_) (by grind[Ng]) rfl;unfold Ng ud;simp only;rw[if_pos (by omega),Ba hi,aaa,if_pos (hm _ (iaa hi)),aaa,Xe (by grind),aaa,xa (by omega),Laa,caa hi];rfl
 simp_all
theorem NU(l:GLaw) (s:GScope):(js l s).Enums=l.Enums/\(js l s).Tables=l.Tables:=by
 unfold js;grind
theorem MB{l:GLaw}(h:LawOk l) (hm:∀x∈l.Enums,x.Members.length<=1099511627776) (hr:∀x∈l.Tables,x.Rows.length<=1099511627776) {i:Nat}(hi:i<l.Scopes.length):Hm l (i:Int)=some (js l l.Scopes[i]):=by
 unfold Hm;obtain⟨e1,e2⟩:=NU l l.Scopes[i];rw[if_pos (by omega),aaa,if_neg (by simp_all),Ak h hi,aaa,e1,fG h.ne hm,aaa,e2,yE h.nt hr,aaa,←e1,←e2]
structure SkInv (i:Nat) (st sk:List Int):Prop where
 len:st.length=i
 pos:0<i->sk≠[]
 zero:i=0->sk=[]
 last:∀k,k+1=sk.length->st[i-1]?=sk[k]?
 chain:∀j,j+1<sk.length->∃a b:Nat,sk[j]?=some (a:Int)/\sk[j+1]?=some (b:Int)/\a<b/\st[b-1]?=some (a:Int)
 bound:∀j,j<sk.length->∃a:Nat,sk[j]?=some (a:Int)/\a<i
theorem eK{e:List GNode}(h:Wst e):∀i,i<=e.length->SkInv i (Se e i).1 (Se e i).2
 |0,_=>by
  refine⟨rfl,by omega,λ_=>rfl,?_,?_,?_⟩
  all_goals grind[Se]
 |i+1,hi=>by
  have ih:=eK h i (by omega);obtain⟨a1,a2,a3⟩:=h.ar (i:=i) (by omega);have hst:Se e (i+1)=((Se e i).1++[if 0<Yb e i then((Se e i).2[(Se e i).2.length-Yb e i]?).getD 0 else(i:Int)],(Se e i).2.take ((Se e i).2.length-Yb e i)++[if 0<Yb e i then((Se e i).2[(Se e i).2.length-Yb e i]?).getD 0 else(i:Int)]):=rfl;rw[hst];generalize (Se e i).1=st at ih⊢;generalize (Se e i).2=sk at ih a2⊢;generalize Yb e i=a at a2⊢;obtain⟨f,hf,hfi,hfl⟩:∃f:Nat,(if 0<a then(sk[sk.length-a]?).getD 0 else(i:Int))=(f:Int)/\f<=i/\(∀j,j+1=sk.length-a->∃b:Nat,sk[j]?=some (b:Int)/\b<f/\st[f-1]?=some (b:Int)):=by
   by_cases ha:0<a
   .obtain⟨f,h1,h2⟩:=ih.bound (sk.length-a) (by omega);refine⟨f,by simp_all,by omega,λj hj=>?_⟩;obtain⟨x,y,k1,k2,k3,k4⟩:=ih.chain j (by omega)
    grind
   .refine⟨i,by omega,by omega,λj hj=>?_⟩;obtain⟨x,k1,k2⟩:=ih.bound j (by omega);refine⟨x,k1,k2,?_⟩;rw[←k1];exact ih.last j (by omega)
  rw[hf];have hlen:(sk.take (sk.length-a)).length=sk.length-a:=by simp
  refine⟨by simp[ih.len],λ_=>by simp,λh=>by omega,?_,?_,?_⟩
  .intro k hk;simp only[Iaa,hlen,Saa]at hk;rw[aad,Dab (by rw[ih.len];omega),ih.len,Hab,Dab (by omega),hlen,show k-(sk.length-a)=0 by omega]
  .intro j hj;simp only[Iaa,hlen,Saa]at hj;by_cases hj2:j+1<sk.length-a
   .obtain⟨x,y,k1,k2,k3,k4⟩:=ih.chain j (by omega);obtain⟨y',q1,q2⟩:=ih.bound (j+1) (by omega);rw[k2]at q1;injection q1 with q1;refine⟨x,y,?_,?_,k3,?_⟩
    all_goals grind
   .obtain⟨x,k1,k2,k3⟩:=hfl j (by omega);refine⟨x,f,?_,?_,k2,?_⟩
    all_goals grind
  .intro j hj;simp only[Iaa,hlen,Saa]at hj;by_cases hj2:j<sk.length-a
   .obtain⟨x,k1,k2⟩:=ih.bound j (by omega)
    grind
   grind
theorem UG{e:List GNode}:∀{n i k:Nat},i<=n->k<i->(Se e n).1[k]?=(Se e i).1[k]?
 |0,i,k,h,hk=>by omega
 |n+1,i,k,h,hk=>by
  by_cases hin:i=n+1
  .simp_all
  .have:(Se e (n+1)).1=(Se e n).1++[if 0<(pb (ua e n).Op).toNat then((Se e n).2[(Se e n).2.length-(pb (ua e n).Op).toNat]?).getD 0 else(n:Int)]:=rfl;rw[this,List.getElem?_append_left (by grind[Yz])];exact UG (by omega) hk
def ig(e:List GNode) (i j:Nat):Nat:=if j+1=Yb e i then i-1 else(((Se e i).2[(Se e i).2.length-Yb e i+j+1]?).getD 0).toNat-1
def ku(e:List GNode) (i:Nat):List Int:=(uaa (Yb e i)).map λj=>(ig e i j:Int)
theorem jg{e:List GNode}(h:Wst e) {i:Nat}(hi:i<e.length) {j:Nat}(hj:j<Yb e i):ig e i j<i/\∃s:Nat,(Se e e.length).1[ig e i j]?=some (s:Int)/\(∀j',j'+1=j->ig e i j'+1=s):=by
 have ih:=eK h i (by omega);obtain⟨a1,a2,a3⟩:=h.ar hi;have hi0:0<i:=by
  rcases Nat.eq_zero_or_pos i with h0|h0
  .have:=ih.zero h0;simp_all
  omega
 have hlt:ig e i j<i/\∃s:Nat,(Se e i).1[ig e i j]?=some (s:Int)/\(Se e i).2[(Se e i).2.length-Yb e i+j]?=some (s:Int):=by
  unfold ig;generalize (Se e i).1=st at ih⊢;generalize (Se e i).2=sk at ih a2⊢;generalize Yb e i=a at a2 hj⊢;by_cases hja:j+1=a
  .rw[if_pos hja];obtain⟨x,k1,k2⟩:=ih.bound (sk.length-a+j) (by omega);exact⟨by omega,x,by rw[ih.last (sk.length-a+j) (by omega)];omega,k1⟩
  .rw[if_neg hja];obtain⟨x,y,k1,k2,k3,k4⟩:=ih.chain (sk.length-a+j) (by omega);obtain⟨y',q1,q2⟩:=ih.bound (sk.length-a+j+1) (by omega)
   grind
 obtain⟨h1,s,h2,h3⟩:=hlt;refine⟨h1,s,by grind[UG],λj' hj'=>?_⟩;subst hj';obtain⟨x,y,k1,k2,k3,k4⟩:=ih.chain ((Se e i).2.length-Yb e i+j') (by omega)
 grind[ig]
theorem iE{e:List GNode}(h:Wst e):∀{n k s:Nat},n<=e.length->(Se e n).1[k]?=some (s:Int)->s<=k
 |0,k,s,_,hs=>by grind[Se]
 |n+1,k,s,hn,hs=>by
  have hk:k<n+1:=by
   grind[Yz]
  by_cases hkn:k=n
  .subst hkn;have ih:=eK h (k+1) hn;have hne:=ih.pos (by omega);obtain⟨q,hq⟩:∃q,q+1=(Se e (k+1)).2.length:=⟨(Se e (k+1)).2.length-1,by grind[List.length_pos_iff]⟩;have h1:=ih.last q hq;rw[aad,hs]at h1;obtain⟨x,k1,k2⟩:=ih.bound q (by omega)
   grind
  .rw[UG (i:=n) (by omega) (by omega)]at hs;exact iE h (by omega) hs
theorem vp{e:List GNode}(h:Wst e):xm e=((Se e e.length).1,0,0):=by
 have:=h.pos;have:=h.le;have:=h.one;unfold xm;rw[if_neg (by omega),if_neg (by omega),Xb.2 h.err]
 simp_all
theorem kI{e:List GNode}(h:Wst e) {i:Nat}(hi:i<e.length) {step:List Int×Int×Int->Option (Ex (List Int×Int×Int) (List Int) Unit)}
 (hs:∀a b c,step (a,b,c)=if 0<=c then(idx a c).bind λ_=>(put a c b).bind λx9=>(idx (Se e e.length).1 b).bind λx10=>some (.go (x9,ea .i64 (x10-1),ea .i64 (c-1)))else some (.brk a)) :
 fa step (gaa (Yb e i) 0,(i:Int)-1,(Yb e i:Int)-1)=some (.inl (ku e i)):=by
 have hle:=h.le;obtain⟨a1,a2,a3⟩:=h.ar hi;have ha3:Yb e i<=12:=by have:=Jn (e:=e) (i:=i) λj hj=>h.err j (by omega);omega
 refine Kc (λt=>(gaa (Yb e i-t) 0++(ku e i).drop (Yb e i-t),(if t=0 then(i:Int)-1 else if t=Yb e i then(((Se e e.length).1[ig e i 0]?).getD 0)-1 else(ig e i (Yb e i-t-1):Int)),(Yb e i:Int)-1-t)) (Yb e i) _ (λt ht=>?_) ?_ ?_
 .obtain⟨j,hj⟩:∃j,Yb e i=t+j+1:=⟨Yb e i-t-1,by omega⟩;obtain⟨o1,s,o2,o3⟩:=jg h hi (j:=j) (by omega);rw[hs];have hlast:(if t=0 then(i:Int)-1 else if t=Yb e i then(((Se e e.length).1[ig e i 0]?).getD 0)-1 else(ig e i (Yb e i-t-1):Int))=(ig e i j:Int):=by
   by_cases t0:t=0
   .grind[ig]
   grind
  rw[hlast,if_pos (by omega),show(Yb e i:Int)-1-t=((j:Nat):Int) by omega];have hL:(ku e i).length=Yb e i:=by simp[ku]
  rw[Ba (i:=j) (by grind),aaa,dw (by grind),aaa];rw[VH,o2,aaa];have hset:(gaa (Yb e i-t) 0++(ku e i).drop (Yb e i-t)).set j (ig e i j:Int)=gaa (Yb e i-(t+1)) 0++(ku e i).drop (Yb e i-(t+1)):=by
   rw[show Yb e i-t=j+1 by omega,show Yb e i-(t+1)=j by omega,Jab,eab,Yab _ _ (by simp),Raa,Hab]
   grind[ku,Taa]
  have hlt:ig e i j<(Se e e.length).1.length:=by grind
  have hs:(s:Int)-1=(if t+1=0 then(i:Int)-1 else if t+1=Yb e i then(((Se e e.length).1[ig e i 0]?).getD 0)-1 else(ig e i (Yb e i-(t+1)-1):Int)):=by
   rw[if_neg (by omega)];by_cases j0:j=0
   all_goals grind
  have hsb:(0:Int)<=s/\(s:Int)<=100:=by
   have:=iE h (oaa _) o2;omega
  rw[hset,wid (n:=(s:Int)-1) (by omega) (by omega),wid (n:=((j:Nat):Int)-1) (by omega) (by omega),hs];congr 4;omega
 .grind
 simp_all[ku]
theorem gp{e:List GNode}(h:Wst e) {i:Nat}(hi:i<e.length):Zi e (i:Int)=some (ku e i):=by
 have hle:=h.le;obtain⟨a1,a2,a3⟩:=h.ar hi;have ha3:Yb e i<=12:=by have:=Jn (e:=e) (i:=i) λj hj=>h.err j (by omega);omega
 have haI:pb (ua e i).Op=(Yb e i:Int):=by grind[Yb]
 unfold Zi;rw[qo,vp h,aaa];dsimp only;have hcond:(if(0:Int)=0 then if¬(i:Int)<0 then some (decide ((e.length:Int)<=(i:Int)))else some true else some true)=some false:=by
  simp_all
 rw[hcond];simp only[aaa,haa,if_false];rw[Ba hi,aaa,Zd hi,Gp,aaa,haI,UB (by omega) (by omega),aaa,wid (n:=(i:Int)-1) (by omega) (by omega),wid (n:=(Yb e i:Int)-1) (by omega) (by omega),kI h hi λa b c=>by grind[ko]];rfl
theorem JB{e:List GNode}(h:Wst e) {i:Nat}(hi:i<e.length):Fm e (i:Int)=some (ku e i):=by
 have hle:=h.le;obtain⟨a1,a2,a3⟩:=h.ar hi;have ha3:Yb e i<=12:=by have:=Jn (e:=e) (i:=i) λj hj=>h.err j (by omega);omega
 have haI:pb (ua e i).Op=(Yb e i:Int):=by grind[Yb]
 unfold Fm Fh;rw[Qi,vp h,aaa,aaa];dsimp only;rw[if_pos rfl,if_pos (by omega),aaa,if_neg (by simp_all),Ba hi,aaa,Zd hi,fg,aaa,haI,UB (by omega) (by omega),aaa,Raa,wid (n:=(i:Int)-1) (by omega) (by omega),wid (n:=(Yb e i:Int)-1) (by omega) (by omega)];have hl:fa (Ni ((Se e e.length).1,0)) (gaa (Yb e i) 0,(i:Int)-1,(Yb e i:Int)-1)=some (.inl (ku e i)):=by
  refine Kc (λt=>(gaa (Yb e i-t) 0++(ku e i).drop (Yb e i-t),(if t=0 then(i:Int)-1 else if t=Yb e i then(((Se e e.length).1[ig e i 0]?).getD 0)-1 else(ig e i (Yb e i-t-1):Int)),(Yb e i:Int)-1-t)) (Yb e i) _ (λt ht=>?_) ?_ ?_
  .obtain⟨j,hj⟩:∃j,Yb e i=t+j+1:=⟨Yb e i-t-1,by omega⟩;obtain⟨o1,s,o2,o3⟩:=jg h hi (j:=j) (by omega);unfold Ni;dsimp only;have hlast:(if t=0 then(i:Int)-1 else if t=Yb e i then(((Se e e.length).1[ig e i 0]?).getD 0)-1 else(ig e i (Yb e i-t-1):Int))=(ig e i j:Int):=by
    by_cases t0:t=0
    .grind[ig]
    grind
   rw[hlast,if_pos (by omega),show(Yb e i:Int)-1-t=((j:Nat):Int) by omega];have hL:(ku e i).length=Yb e i:=by simp[ku]
   rw[Ba (i:=j) (by grind),aaa,dw (by grind),aaa];rw[VH,o2,aaa];have hset:(gaa (Yb e i-t) 0++(ku e i).drop (Yb e i-t)).set j (ig e i j:Int)=gaa (Yb e i-(t+1)) 0++(ku e i).drop (Yb e i-(t+1)):=by
    rw[show Yb e i-t=j+1 by omega,show Yb e i-(t+1)=j by omega,Jab,eab,Yab _ _ (by simp),Raa,Hab]
    grind[ku,Taa]
   have hlt:ig e i j<(Se e e.length).1.length:=by grind
   have hs:(s:Int)-1=(if t+1=0 then(i:Int)-1 else if t+1=Yb e i then(((Se e e.length).1[ig e i 0]?).getD 0)-1 else(ig e i (Yb e i-(t+1)-1):Int)):=by
    rw[if_neg (by omega)];by_cases j0:j=0
    all_goals grind
   have hsb:(0:Int)<=s/\(s:Int)<=100:=by
    have:=iE h (oaa _) o2;omega
   rw[hset,wid (n:=(s:Int)-1) (by omega) (by omega),wid (n:=((j:Nat):Int)-1) (by omega) (by omega),hs];congr 4;omega
  .grind[Ni]
  simp[ku]
 simp_all
def Dz(op:Int):Bool:=decide (2<=op)&&decide (op<=6)
def Rx(op:Int):Bool:=decide (19<=op)&&decide (op<=22)
theorem wq(op:Int):Ci op=some (Dz op):=by grind[Ci,Dz]
theorem Qr(op:Int):yg op=some (Rx op):=by grind[yg,Rx]
theorem Qn(n:GNode):Lf n=some (Dz n.Op):=by
 grind[Lf,Dz]
theorem Kp(n:GNode):Ie n=some (Rx n.Op):=by
 grind[Ie,Rx]
def qx(e:List GNode) (i:Nat):Option (Int×GNode):=
 if Yb e i=2 then
  (
   if(ua e (ig e i 0)).Op=7/\Dz (ua e (ig e i 1)).Op=true then some ((ua e (ig e i 0)).N,ua e (ig e i 1))
   else if(ua e (ig e i 1)).Op=7/\Dz (ua e (ig e i 0)).Op=true then some ((ua e (ig e i 1)).N,ua e (ig e i 0))else none)
 else none
def RQ:Option (Int×GNode)->Int×GNode×Bool
 |some v=>(v.1,v.2,true)
 |none=>(0,⟨0,0⟩,false)
def SG:Option (Int×GNode)->GNode×GNode×Bool
 |some v=>(⟨7,v.1⟩,v.2,true)
 |none=>(⟨0,0⟩,⟨0,0⟩,false)
theorem L7{e:List GNode}{i:Nat}(h2:Yb e i=2):ku e i=[(ig e i 0:Int),(ig e i 1:Int)]:=by
 unfold ku;rw[h2];rfl
theorem Kv{e:List GNode}(h:Wst e) {i:Nat}(hi:i<e.length):Lc e (i:Int)=some (RQ (qx e i)):=by
 unfold Lc qx;rw[JB h hi,aaa];by_cases h2:Yb e i=2
 .have o1:=(jg h hi (j:=0) (by omega)).1;have o2:=(jg h hi (j:=1) (by omega)).1;rw[if_pos h2,L7 h2,if_neg (by simp),wg,mD,aaa,Ba (by omega),aaa,Zd (by omega),aaa];rw[Ba (by omega),aaa,Zd (by omega),Qn,Qn]
  grind[RQ]
 .have hL:(ku e i).length=Yb e i:=by simp[ku]
  rw[if_neg h2,if_pos (by omega)];rfl
theorem uw{e:List GNode}(h:Wst e) {i:Nat}(hi:i<e.length):qm e (i:Int)=some (SG (if Rx (ua e i).Op=true then qx e i else none)):=by
 unfold qm qx;rw[gp h hi,aaa,Ba hi,aaa,Zd hi,Qr,aaa];have hL:(ku e i).length=Yb e i:=by simp[ku]
 cases Rx (ua e i).Op
 .rfl
 simp only[if_true,aaa];by_cases h2:Yb e i=2
 .have o1:=(jg h hi (j:=0) (by omega)).1;have o2:=(jg h hi (j:=1) (by omega)).1;rw[if_pos h2,if_neg (by simp_all),L7 h2,wg,mD,aaa,Ba (by omega),aaa,Zd (by omega),aaa];rw[Ba (by omega),aaa,Zd (by omega),wq,wq];generalize ua e (ig e i 0)=a;generalize ua e (ig e i 1)=b;obtain⟨ao,an⟩:=a;obtain⟨bo,bn⟩:=b;by_cases ha:ao=7
  .subst ha;cases hb:Dz bo
   .by_cases hb7:bo=7
    .subst hb7;have:Dz 7=false:=rfl
     grind[SG]
    grind[SG]
   grind[SG]
  grind[SG]
 .rw[if_neg h2,if_pos (by grind)];rfl
def Yn(e:List GNode) (i:Nat):Bool:=
 if Rx (ua e i).Op=true then(qx e i).isSome else(ua e i).Op==1 || (ua e i).Op==23 || (ua e i).Op==24 || (ua e i).Op==25 || (ua e i).Op==7 || Dz (ua e i).Op
noncomputable def Yk(e:List GNode) (s:GSignature):Bool:=
 decide ((Kn e s).2.2=0)&&((Kn e s).1.Kind==1&&(Kn e s).1.Enum==0)&&(ff (λi=>if Yn e i=true then none else some false) e.length).isNone
theorem pE{e:List GNode}{s:GSignature}(h:(Kn e s).2.2=0):Wst e:=by
 grind[Kn,ZG]
theorem xI{o:Option (Int×GNode)}:(RQ o).2.2=o.isSome/\(SG o).2.2=o.isSome:=by cases o<;>exact⟨rfl,rfl⟩
theorem OH{f:Nat->Bool}{n:Nat}:(match (Vb () (ff (λi=>if f i=true then none else some false) n):Unit⊕Bool)with|.inr v=>some v|.inl _=>some true)=some (ff (λi=>if f i=true then none else some false) n).isNone:=by
 cases h:ff (λi=>if f i=true then none else some false) n with
 |none=>rfl
 |some v=>
  obtain⟨k,-,h2,-⟩:=Ta.1 h;split at h2
  .grind
  .injection h2 with h2;subst h2;rfl
theorem CC{e:List GNode}(hN:∀n∈e,xb n) (s:GSignature):Ul e s=some (Yk e s):=by
 unfold Ul Yk;rw[Ax hN,aaa];by_cases h0:(Kn e s).2.2=0
 .have hw:=pE h0;have hle:=hw.le;rw[if_pos h0,aaa,decide_eq_true h0];cases (Kn e s).1.Kind==1&&(Kn e s).1.Enum==0
  .rfl
  .simp only[xab,haa,if_false,Uaa];have hl:fa (Lj e) 0=some (Vb () (ff (λi=>if Yn e i=true then none else some false) e.length)):=
    Kb (λi=>(i:Int)) _ _ _ (λi hi _=>by
     unfold Lj Yn;rw[if_pos (by omega),Ba hi,aaa,Zd hi,Qn,Kp,Kv hw hi,xa (by omega)];simp only[aaa,xI.1];generalize (qx e i).isSome=c
     grind[Rx,lC,Dz]) (λ_=>by grind[Lj])
   rw[hl];exact OH
 simp_all
theorem MD{e:List GNode}(hN:∀n∈e,xb n) (s:GSignature):om e s=some (Yk e s):=by
 unfold om Yk;rw[nw hN,aaa];by_cases h0:(Kn e s).2.2=0
 .have hw:=pE h0;have hle:=hw.le;rw[if_pos h0,aaa,decide_eq_true h0];cases (Kn e s).1.Kind==1&&(Kn e s).1.Enum==0
  .rfl
  .simp only[xab,haa,if_false,Uaa];have hl:fa (gk e) 0=some (Vb () (ff (λi=>if Yn e i=true then none else some false) e.length)):=
    Kb (λi=>(i:Int)) _ _ _ (λi hi _=>by
     unfold gk Yn;rw[if_pos (by omega),Ba hi,aaa,Zd hi,Qr,wq,uw hw hi,xa (by omega)];simp only[aaa,xI.2]
     grind[lC]) (λ_=>by grind[gk])
   rw[hl];exact OH
 simp_all
theorem Ps{l:List Int}{p:Int->Bool}{i:Nat}(hi:i<l.length):(l.take (i+1)).filter p=(l.take i).filter p++(if p l[i]=true then [l[i]]else []):=by
 rw[Laa,caa hi,vab,iab]
 grind
theorem Lu{l:List Int}{p:Int->Bool}{i:Nat}:((l.take i).filter p).length<=i:=by
 grind
theorem EJ{l:List Int}{n:Int}(h:aH l):l.filter (λx=>decide (x<n))++[n]++l.filter (λx=>decide (n<x))=Si l n:=by
 refine uz ?_ (Xv h) λx=>?_
 .rw[eab];refine tac.2 ⟨h.filter _,?_,λa ha b hb=>?_⟩
  all_goals grind
 .rw[iu]
  grind
theorem Hr{l:List Int}{n:Int}(h:aH l) (hl:l.length<=1099511627776):Aj l n=some (Si l n):=by
 unfold Aj;have h1:fa (Tj l n) (([]:List Int),0)=some (.inl (l.filter λx=>decide (x<n))):=by
  refine Kc (λi=>((l.take i).filter λx=>decide (x<n),(i:Int))) l.length _ (λi hi=>?_) (by grind[Tj]) rfl;have:=Lu (l:=l) (p:=λx=>decide (x<n)) (i:=i);unfold Tj;simp only;rw[if_pos (by omega),Ba hi,aaa,xa (by omega),Ps hi];by_cases hx:l[i]<n
  .rw[if_pos hx,if_pos (by simp_all),Xe (by grind)];rfl
  grind
 rw[h1,aaa];simp only;have hlen:=Qaa (λx=>decide (x<n)) l;rw[Xe (by grind),aaa];have h2:fa (Sj l n) (l.filter (λx=>decide (x<n))++[n],0)=some (.inl (l.filter (λx=>decide (x<n))++[n]++l.filter λx=>decide (n<x))):=by
  refine Kc (λi=>(l.filter (λx=>decide (x<n))++[n]++(l.take i).filter λx=>decide (n<x),(i:Int))) l.length _ (λi hi=>?_) (by grind[Sj]) (by simp);have:=Lu (l:=l) (p:=λx=>decide (n<x)) (i:=i);unfold Sj;simp only;rw[if_pos (by omega),Ba hi,aaa,xa (by omega),Ps hi];by_cases hx:n<l[i]
  .rw[if_pos hx,if_pos (by simp_all),Xe (by grind)];simp
  grind
 grind[EJ]
def cutAt(e:List GNode) (kl:Int) (i:Nat):List Int:=
 if Rx (ua e i).Op=true then
  match qx e i with
  |some v=>if v.1=kl/\¬v.2.Op=6 then(if v.2.N<9223372036854775807 then [v.2.N,v.2.N+1]else [v.2.N])else []
  |none=>[]
 else []
theorem TL(e:List GNode) (kl:Int) (i:Nat):(cutAt e kl i).length<=2:=by
 grind[cutAt]
def Am(e:List GNode) (kl:Int):Nat->List Int
 |0=>[]
 |k+1=>Am e kl k++cutAt e kl k
theorem Bu(e:List GNode) (kl:Int):∀k,(Am e kl k).length<=2*k
 |0=>by simp[Am]
 |k+1=>by
  have:=Bu e kl k
  grind[Am,TL]
def Ue(gs:List (List GNode)) (kl:Int):Nat->List Int
 |0=>[]
 |k+1=>Ue gs kl k++(match gs[k]? with|some e=>Am e kl e.length|none=>[])
theorem Lp{gs:List (List GNode)}(hw:∀g∈gs,Wst g) (kl:Int):∀k,(Ue gs kl k).length<=96*k
 |0=>by simp[Ue]
 |k+1=>by
  have:=Lp hw kl k;simp only[Ue,Iaa];split
  .rename_i e he;have h1:=Bu e kl e.length;have h2:=(hw e (Caa he)).le;omega
  grind
theorem SQ{e:List GNode}(hN:∀n∈e,xb n) (hw:Wst e) {i:Nat}(hi:i<e.length) {v:Int×GNode}(hv:qx e i=some v):xb v.2:=by
 unfold qx at hv;split at hv
 .rename_i h2;have o1:=(jg hw hi (j:=0) (by omega)).1;have o2:=(jg hw hi (j:=1) (by omega)).1
  grind[xT]
 simp_all
theorem Ty{gs:List (List GNode)}(hg:gs.length<=1048576) (hw:∀g∈gs,Wst g) (hN:∀g∈gs,∀n∈g,xb n) (kl:Int):Kj gs kl=some (oe (Ue gs kl gs.length)):=by
 unfold Kj;have hl:fa (Dg gs kl) (([]:List Int),0)=some (.inl (Ue gs kl gs.length)):=by
  refine Kc (λk=>(Ue gs kl k,(k:Int))) gs.length _ (λk hk=>?_) (by grind[Dg]) rfl;have hlen:=Lp hw kl k;have hwk:=hw _ (iaa hk);have hNk:=hN _ (iaa hk);have hle:=hwk.le;unfold Dg Fh;simp only[Ue,caa hk];rw[if_pos (by omega),Ba hk,aaa,xa (by omega)];generalize gs[k]=e at hwk hNk hle⊢;generalize Ue gs kl k=a at hlen⊢;rw[Qi,vp hwk,aaa,aaa,if_neg (by simp)];have h2:fa (Cg kl e) (a,0)=some (.inl (a++Am e kl e.length)):=by
   refine Kc (λi=>(a++Am e kl i,(i:Int))) e.length _ (λi hi=>?_) (by grind[Cg]) (by simp[Am]);have h3:=Bu e kl i;have hsim:=λv (hv:qx e i=some v)=>SQ hNk hwk hi hv;unfold Cg;simp only[Am,cutAt];rw[if_pos (by omega),Ba hi,aaa,Zd hi,Kp,aaa,Kv hwk hi,aaa,xa (by omega)];cases Rx (ua e i).Op
   .simp
   simp only[saa,if_false,if_true]
   cases hv:qx e i with
   |none=>simp[RQ]
   |some v=>
    have hok:=hsim v hv;unfold xb at hok;rw[show RQ (some v)=(v.1,v.2,true)from rfl,if_pos rfl];dsimp only;by_cases hi2:v.1=kl
    .by_cases h6:v.2.Op=6
     .simp_all
     .rw[if_pos hi2,if_pos ⟨hi2,h6⟩,aaa,if_neg (by simp_all),Xe (by grind),aaa];by_cases hm:v.2.N<9223372036854775807
      .rw[if_pos hm,if_pos hm,wid (n:=v.2.N+1) (by omega) (by omega),Xe (by grind)];simp
      grind
    simp_all
  simp_all
 have hlen:=Lp hw kl gs.length;rw[hl,aaa];simp only[ob,Pa];rw[if_pos (by omega),aaa,if_pos (by simp;omega),aaa,yp]
theorem tF{a b:List Int}:oe (a++b)=b.foldl Si (oe a):=by grind[oe]
theorem Oz{gs:List (List GNode)}(hg:gs.length<=1048576) (hw:∀g∈gs,Wst g) (hN:∀g∈gs,∀n∈g,xb n) (kl:Int):fk gs kl=some (oe (Ue gs kl gs.length)):=by
 unfold fk;have hl:fa (ah gs kl) (([]:List Int),0)=some (.inl (oe (Ue gs kl gs.length))):=by
  refine Kc (λk=>(oe (Ue gs kl k),(k:Int))) gs.length _ (λk hk=>?_) (by grind[ah]) rfl;have hlen:=Lp hw kl k;have hwk:=hw _ (iaa hk);have hNk:=hN _ (iaa hk);have hle:=hwk.le;have h2:fa (Zg gs kl (k:Int)) (oe (Ue gs kl k),0)=some (.inl (oe (Ue gs kl k++Am gs[k] kl gs[k].length))):=by
   refine Kc (λi=>(oe (Ue gs kl k++Am gs[k] kl i),(i:Int))) gs[k].length _ (λi hi=>?_) ?_ (by simp[Am])
   .have h3:=Bu gs[k] kl i;have hsim:=λv (hv:qx gs[k] i=some v)=>SQ hNk hwk hi hv;unfold Zg;simp only;rw[Ba hk,aaa];simp only[Am,cutAt];generalize gs[k]=e at hwk hNk hle hi h3 hsim⊢;rw[if_pos (by omega),uw hwk hi,aaa,xa (by omega)];have hd:=Xl (Ue gs kl k++Am e kl i);have hdl:(oe (Ue gs kl k++Am e kl i)).length<=1099511627776-10:=by
     grind
    rw[←eab];generalize Ue gs kl k++Am e kl i=a at hd hdl⊢;cases Rx (ua e i).Op
    .simp[SG]
    simp only[saa,if_false,if_true]
    cases hv:qx e i with
    |none=>simp[SG]
    |some v=>
     have hok:=hsim v hv;unfold xb at hok;rw[show SG (some v)=(⟨7,v.1⟩,v.2,true)from rfl,if_pos rfl];dsimp only;by_cases hi2:v.1=kl
     .by_cases h6:v.2.Op=6
      .simp_all
      .have hl1:=Cz (n:=v.2.N) (l:=oe a);rw[if_pos hi2,if_pos ⟨hi2,h6⟩,aaa,if_neg (by simp_all),Hr hd.1 (by omega),aaa];by_cases hm:v.2.N<9223372036854775807
       .rw[wid (n:=v.2.N+1) (by omega) (by omega),if_pos (by omega),if_pos hm,Hr (Xv hd.1) (by omega),tF];rfl
       .have hmax:v.2.N=9223372036854775807:=by omega
        have hw:ea .i64 (v.2.N+1) = -9223372036854775808:=by rw[hmax];rfl
        simp_all[tF]
     simp_all
   simp_all[Zg,Ba]
  unfold ah;simp only[Ue,caa hk];rw[if_pos (by omega),h2,aaa,xa (by omega)]
 simp_all
def qE(lo:Int):Nat->List Int
 |0=>[]
 |k+1=>qE lo k++[lo+k]
theorem wu(lo:Int):∀k,(qE lo k).length=k
 |0=>rfl
 |k+1=>by simp[qE,wu lo k]
theorem FF{p:Int×Int}(h:-1152921504606846976<=p.1/\p.2<=1152921504606846976) (hs:p.2-p.1<=1099511627776):fa (od p) (([]:List Int),p.1)=some (.inl (qE p.1 (p.2-p.1+1).toNat)):=by
 refine Kc (λk=>(qE p.1 k,p.1+k)) (p.2-p.1+1).toNat _ (λk hk=>?_) ?_ (by simp[qE])
 .have:=wu p.1 k;unfold od;simp only;rw[if_pos (by omega),Xe (by grind),aaa,wid (by omega) (by omega)]
  grind[qE]
 grind[od]
noncomputable def JG(t:GType) (e:List GEnum) (cuts:List Int):List Int:=
 if(oh t e).2<(oh t e).1 then []
 else if t.Kind=1\/t.Kind=6 then qE (oh t e).1 ((oh t e).2-(oh t e).1+1).toNat
 else oe ([(oh t e).1]++cuts.filter λc=>decide ((oh t e).1<=c)&&decide (c<=(oh t e).2))
theorem kA{t:GType}{e:List GEnum}(he:∀x∈e,x.Members.length<=1048576):-1000000000000000<=(oh t e).1/\(oh t e).2<=1000000000000000/\((t.Kind=1\/t.Kind=6)->(oh t e).1=0/\(oh t e).2<=1048576)/\(ja t e=false->(oh t e).2<(oh t e).1)/\(ja t e=true->t.Kind≠6->(oh t e).1<(oh t e).2):=by
 have hb:=xl t e;unfold We at hb;rw[Oa,aaa]at hb
 cases hv:ja t e with
 |false=>
  grind
 |true=>
  rw[hv]at hb;simp only[saa,if_false]at hb;by_cases h1:t.Kind=1
  .grind
  by_cases h2:t.Kind=2
  .grind
  by_cases h3:t.Kind=3
  .grind
  by_cases h4:t.Kind=4
  .grind
  by_cases h5:t.Kind=5
  .grind
  .rw[if_neg h1,if_neg h2,if_neg h3,if_neg h4,if_neg h5]at hb;have h6:t.Kind=6:=by
    grind[ja]
   unfold ja at hv;rw[if_pos h6]at hv;simp at hv;have hm:=he _ (iaa (l:=e) (n:=t.Enum.toNat) (by omega));rw[Di hv.1 hv.2,aaa,wid (by omega) (by omega)]at hb
   grind
theorem Ot{t:GType}{e:List GEnum}(he:∀x∈e,x.Members.length<=1048576) {cuts:List Int}(hc:cuts.length<=1099511627):we t e cuts=some (JG t e cuts):=by
 obtain⟨b1,b2,b3,b4,b5⟩:=kA (t:=t) he;unfold we JG;rw[Na,aaa,Pl,aaa]
 cases hv:ja t e with
 |false=>simp_all
 |true=>
  rw[if_neg (by simp)];have hk:(if¬t.Kind=1 then some (t.Kind==6)else some true)=some (decide (t.Kind=1\/t.Kind=6)):=by
   grind
  rw[hk,aaa];by_cases hk2:t.Kind=1\/t.Kind=6
  .obtain⟨q1,q2⟩:=b3 hk2;rw[if_pos (by simp_all),FF ⟨by omega,by omega⟩ (by omega),aaa,if_pos hk2];by_cases hlt:(oh t e).2<(oh t e).1
   .rw[if_pos hlt,show((oh t e).2-(oh t e).1+1).toNat=0 by omega];rfl
   grind
  .have hlt:=b5 hv (λh=>hk2 (.inr h));rw[if_neg (by simp_all),if_neg (by omega),if_neg hk2];have hl:fa (pd cuts (oh t e)) ([(oh t e).1],0)=some (.inl ([(oh t e).1]++cuts.filter λc=>decide ((oh t e).1<=c)&&decide (c<=(oh t e).2))):=by
    refine Kc (λi=>([(oh t e).1]++(cuts.take i).filter (λc=>decide ((oh t e).1<=c)&&decide (c<=(oh t e).2)),(i:Int))) cuts.length _ (λi hi=>?_) (by grind[pd]) (by simp);have:=Lu (l:=cuts) (p:=λc=>decide ((oh t e).1<=c)&&decide (c<=(oh t e).2)) (i:=i);unfold pd;simp only;rw[if_pos (by omega),Ba hi,aaa,xa (by omega),Ps hi];generalize cuts[i]=c;by_cases c1:(oh t e).1<=c
    .by_cases c2:c<=(oh t e).2
     .rw[if_pos c1,aaa,decide_eq_true c2,if_pos rfl,Xe (by grind)];grind
     grind
    grind
   have:=Qaa (λc=>decide ((oh t e).1<=c)&&decide (c<=(oh t e).2)) cuts;rw[hl,aaa];simp only[ob,Pa];rw[if_pos (by grind),aaa,if_pos (by simp;omega),aaa,yp]
theorem qu{t:GType}{e:List GEnum}(he:∀x∈e,x.Members.length<=1048576) {cuts:List Int}(hc:cuts.length<=1099511627):Fe t e cuts=some (JG t e cuts):=by
 obtain⟨b1,b2,b3,b4,b5⟩:=kA (t:=t) he;unfold Fe JG;rw[xl,aaa];by_cases hlt:(oh t e).2<(oh t e).1
 .simp_all
 rw[if_neg hlt,if_neg hlt];have hk:(if¬t.Kind=1 then some (t.Kind==6)else some true)=some (decide (t.Kind=1\/t.Kind=6)):=by
  grind
 rw[hk,aaa];by_cases hk2:t.Kind=1\/t.Kind=6
 .obtain⟨q1,q2⟩:=b3 hk2;have hr:fa (Bi (oh t e)) (([]:List Int),(oh t e).1)=some (.inl (qE (oh t e).1 ((oh t e).2-(oh t e).1+1).toNat)):=FF ⟨by omega,by omega⟩ (by omega)
  simp_all
 .rw[if_neg (by simp_all),if_neg hk2];have hl:fa (qd cuts (oh t e)) ([(oh t e).1],0)=some (.inl (oe ([(oh t e).1]++cuts.filter λc=>decide ((oh t e).1<=c)&&decide (c<=(oh t e).2)))):=by
   refine Kc (λi=>(oe ([(oh t e).1]++(cuts.take i).filter (λc=>decide ((oh t e).1<=c)&&decide (c<=(oh t e).2))),(i:Int))) cuts.length _ (λi hi=>?_) (by grind[qd]) (by simp[oe,Si]);have h1:=Lu (l:=cuts) (p:=λc=>decide ((oh t e).1<=c)&&decide (c<=(oh t e).2)) (i:=i);have h2:=Xl ([(oh t e).1]++(cuts.take i).filter (λc=>decide ((oh t e).1<=c)&&decide (c<=(oh t e).2)));have h3:=h2.2.1;rw[Iaa,Saa]at h3;unfold qd;simp only;rw[if_pos (by omega),Ba hi,aaa,xa (by omega),Ps hi,←eab];generalize cuts[i]=c;by_cases c1:(oh t e).1<=c
   .by_cases c2:c<=(oh t e).2
    .rw[if_pos c1,aaa,decide_eq_true c2,if_pos rfl,aaa,Hr h2.1 (by omega),decide_eq_true c1,if_pos (show(true&&true)=true from rfl),KC];rfl
    grind
   grind
  simp_all
def Cc(g:List (List Int)):Nat->Int
 |0=>1
 |k+1=>match g[k]? with|some l=>if Cc g k<=4096 then Cc g k*(l.length:Int)else Cc g k|none=>Cc g k
theorem vB{g:List (List Int)}(hl:∀l∈g,0<l.length/\l.length<=1099511627776):∀k,1<=Cc g k/\Cc g k<=4503599627370496
 |0=>by simp[Cc]
 |k+1=>by
  have ih:=vB hl k;unfold Cc;split
  .rename_i l h;have:=hl l (Caa h);split
   .rename_i hle;constructor
    .have:(1:Int)*1<=Cc g k*(l.length:Int):=hac ih.1 (by omega) (by omega) (by omega);omega
    .have:Cc g k*(l.length:Int)<=4096*1099511627776:=hac hle (by omega) (by omega) (by omega);omega
   omega
  omega
def Mv(g:List (List Int)):Int:=if(g.any λl=>decide (l.length=0))=true then 0 else min (Cc g g.length) 4097
theorem any_zero{g:List (List Int)}(h:(g.any λl=>decide (l.length=0))=false) {l:List Int}(hl:l∈g):0<l.length:=by
 grind
theorem xE{g:List (List Int)}(hg:g.length<=1048576) (hl:∀l∈g,l.length<=1099511627776):Jp g=some (Mv g):=by
 unfold Jp Mv;have key:∀k,k<=g.length->(∀j (hj:j<k) (hjl:j<g.length),g[j].length≠0)->Cc g k<=4503599627370496/\1<=Cc g k:=by
  intro k hk hz
  induction k with
  |zero=>simp[Cc]
  |succ k ih=>
   have ih:=ih (by omega) λj hj hjl=>hz j (by omega) hjl;have hlt:k<g.length:=by omega
   have h1:=hl _ (iaa hlt);have h2:=hz k (by omega) hlt;unfold Cc;rw[caa hlt];dsimp only;split
   .rename_i hle;constructor
    .have:Cc g k*(g[k].length:Int)<=4096*1099511627776:=hac hle (by omega) (by omega) (by omega);omega
    .have:(1:Int)*1<=Cc g k*(g[k].length:Int):=hac ih.2 (by omega) (by omega) (by omega);omega
   omega
 have h1:fa (Sk g) (1,0)=some (Vb (Cc g g.length) (ff (λi=>if(g[i]?.any λl=>decide (l.length=0))=true then some 0 else none) g.length)):=by
  refine Kb (λk=>(Cc g k,(k:Int))) _ _ _ (λk hk hf=>?_) (λ_=>by grind[Sk]) rfl;obtain⟨p1,p2⟩:=key k (by omega) λj hj hjl hz=>by
   grind
  have hlk:=hl _ (iaa hk);unfold Sk;simp only[Cc,caa hk,Yaa,decide_eq_true_eq];rw[if_pos (by omega),Ba hk,aaa,xa (by omega)];by_cases h0:g[k].length=0
  .rw[if_pos (by omega),if_pos h0];rfl
  .rw[if_neg (by omega),if_neg h0];by_cases hle:Cc g k<=4096
   .have:Cc g k*(g[k].length:Int)<=4096*1099511627776:=hac hle (by omega) (by omega) (by omega);have:(0:Int)<=Cc g k*(g[k].length:Int):=tad (by omega) (by omega);rw[if_pos hle,if_pos hle,wid (by omega) (by omega)];rfl
   .rw[if_neg hle,if_neg hle];rfl
 rw[h1,←Wk (l:=g) (q:=λl=>decide (l.length=0)) (g:=λ_=>(0:Int)),aaa]
 cases hf:ff (λi=>if(g[i]?.any λl=>decide (l.length=0))=true then some (0:Int)else none) g.length with
 |none=>rfl
 |some v=>
  obtain⟨j,-,j2,-⟩:=Ta.1 hf;split at j2
  .injection j2 with j2;subst j2;rfl
  simp_all
theorem SE{g:List (List Int)}(hg:g.length<=1048576) (hl:∀l∈g,l.length<=1099511627776):bq g=some (Mv g):=by
 unfold bq Mv;have h1:fa (Hl g) 0=some (Vb () (ff (λi=>if(g[i]?.any λl=>decide (l.length=0))=true then some 0 else none) g.length)):=by
  refine Kb (λk=>(k:Int)) _ _ _ (λk hk hf=>?_) (λ_=>by grind[Hl]) rfl;unfold Hl;simp only[caa hk,Yaa,decide_eq_true_eq];rw[if_pos (by omega),Ba hk,aaa,xa (by omega)];by_cases h0:g[k].length=0
  .rw[if_pos (by omega),if_pos h0];rfl
  .rw[if_neg (by omega),if_neg h0];rfl
 have hany:=Wk (l:=g) (q:=λl=>decide (l.length=0)) (g:=λ_=>(0:Int));rw[h1,←hany,aaa]
 cases hf:ff (λi=>if(g[i]?.any λl=>decide (l.length=0))=true then some (0:Int)else none) g.length with
 |some v=>
  obtain⟨j,-,j2,-⟩:=Ta.1 hf;split at j2
  .injection j2 with j2;subst j2;rfl
  simp_all
 |none=>
  rw[hf]at hany;have hz:∀l∈g,0<l.length/\l.length<=1099511627776:=λl hlm=>⟨any_zero hany.symm hlm,hl l hlm⟩;have hb:=vB hz;have stay:∀n k,¬Cc g k<=4096->Cc g (k+n)=Cc g k:=by
   intro n k hk
   induction n with
   |zero=>rfl
   |succ n ih=>
    grind[Cc]
  have h2:fa (Yg g) (1,0)=some (.inl (Cc g g.length)):=by
   have hstep:∀k,k<g.length->Cc g k<=4096->Yg g (Cc g k,(k:Int))=some (.go (Cc g (k+1),((k+1:Nat):Int))):=by
    intro k hk hle;have hlk:=hz _ (iaa hk);have:=hb k;have h3:Cc g k*(g[k].length:Int)<=4096*1099511627776:=hac hle (by omega) (by omega) (by omega);have h4:(0:Int)<=Cc g k*(g[k].length:Int):=tad (by omega) (by omega);unfold Yg;simp only[Cc,caa hk];rw[if_pos (by omega),aaa,if_pos (by simp_all),Ba hk,aaa,xa (by omega),wid (by omega) (by omega),if_pos hle]
   by_cases hall:∀k,k<g.length->Cc g k<=4096
   .exact Kc (λk=>(Cc g k,(k:Int))) g.length _ (λk hk=>hstep k hk (hall k hk)) (by grind[Yg]) rfl
   .obtain⟨k,k1,k2,k3⟩:∃k,k<g.length/\¬Cc g k<=4096/\∀j,j<k->Cc g j<=4096:=by
     have:∀n,(∃k,k<n/\¬Cc g k<=4096)->∃k,k<n/\¬Cc g k<=4096/\∀j,j<k->Cc g j<=4096:=by
      intro n
      induction n with
      |zero=>omega
      |succ n ih=>
       rintro⟨k,h,hk⟩;by_cases he:∃k,k<n/\¬Cc g k<=4096
       all_goals grind
     refine this _ ?_
     simp_all
    have he:Cc g g.length=Cc g k:=by
     have:=stay (g.length-k) k k2
     grind
    rw[he];refine Kc (λj=>(Cc g j,(j:Int))) k _ (λj hj=>hstep j (by omega) (k3 j hj)) ?_ rfl
    simp_all[Yg]
  grind[Vb]
def Ru(gs:List (List GNode)) (i:Int):Bool:=gs.any λg=>g.any λn=>decide (n.Op=7/\n.N=i)
theorem eP{l:List GNode}(hl:l.length<=1048576) (i:Int):qc l (GNode.mk 7 i)=some (l.any λn=>decide (n.Op=7/\n.N=i)):=by
 have h:=Vl (l:=l) (p:=λx=>some (decide (7=x.Op/\i=x.N))) (λn=>decide (n.Op=7/\n.N=i)) (λx _=>by grind) (by omega) (o:=fa (tc l (GNode.mk 7 i)) 0) (by
  unfold tc;simp)
 exact h
theorem Uw{gs:List (List GNode)}(hg:gs.length<=1048576) (hl:∀g∈gs,g.length<=1048576) (i:Int):Bh gs i=some (Ru gs i):=by
 unfold Bh Ru;have h1:fa (af gs i) 0=some (Vb () (ff (λk=>if(gs[k]?.any λg=>g.any λn=>decide (n.Op=7/\n.N=i))=true then some true else none) gs.length)):=by
  refine Kb (λk=>(k:Int)) _ _ _ (λk hk _=>?_) (λ_=>by grind[af]) rfl;unfold af;rw[if_pos (by omega),Ba hk,aaa,eP (hl _ (iaa hk)),aaa,xa (by omega),caa hk,Yaa];cases gs[k].any λn=>decide (n.Op=7/\n.N=i)<;>rfl
 rw[h1,←Wk (g:=λ_=>true),aaa]
 cases hf:ff (λk=>if(gs[k]?.any λg=>g.any λn=>decide (n.Op=7/\n.N=i))=true then some true else none) gs.length with
 |none=>rfl
 |some v=>
  obtain⟨j,-,j2,-⟩:=Ta.1 hf;split at j2
  .injection j2 with j2;subst j2;rfl
  simp_all
theorem PD{gs:List (List GNode)}(hg:gs.length<=1048576) (hl:∀g∈gs,g.length<=1048576) (i:Int):Eo gs i=some (Ru gs i):=by
 unfold Eo Ru;have h1:fa (lk gs i) 0=some (Vb () (ff (λk=>if(gs[k]?.any λg=>g.any λn=>decide (n.Op=7/\n.N=i))=true then some true else none) gs.length)):=by
  refine Kb (λk=>(k:Int)) _ _ _ (λk hk _=>?_) (λ_=>by grind[lk]) rfl;have hlk:=hl _ (iaa hk);have h2:fa (ik gs i (k:Int)) 0=some (Vb () (ff (λj=>if(gs[k][j]?.any λn=>decide (n.Op=7/\n.N=i))=true then some (Ex.ret true)else none) gs[k].length)):=by
   refine Kb (λj=>(j:Int)) _ _ _ (λj hj _=>?_) (λ_=>by simp_all[ik,Ba]) rfl;unfold ik;rw[Ba hk,aaa,if_pos (by omega),Ba hj,aaa,xa (by omega),caa hj,Yaa]
   grind[lC]
  unfold lk;rw[if_pos (by omega),h2,aaa,xa (by omega),caa hk,Yaa,←Wk (g:=λ_=>(Ex.ret true:Ex Int Unit Bool))]
  cases hf:ff (λj=>if(gs[k][j]?.any λn=>decide (n.Op=7/\n.N=i))=true then some (Ex.ret true:Ex Int Unit Bool)else none) gs[k].length with
  |none=>rfl
  |some v=>
   obtain⟨j,-,j2,-⟩:=Ta.1 hf;split at j2
   .injection j2 with j2;subst j2;rfl
   simp_all
 rw[h1,←Wk (g:=λ_=>true),aaa]
 cases hf:ff (λk=>if(gs[k]?.any λg=>g.any λn=>decide (n.Op=7/\n.N=i))=true then some true else none) gs.length with
 |none=>rfl
 |some v=>
  obtain⟨j,-,j2,-⟩:=Ta.1 hf;split at j2
  .injection j2 with j2;subst j2;rfl
  simp_all
theorem Yr{l:List Int}(hl:l.length<=1099511627776):um l l=some true:=by
 unfold um;rw[if_neg (by simp)];have:fa (Ho l l) 0=some (.inl ()):=Kc (λk=>(k:Int)) l.length () (λk hk=>by
  unfold Ho;rw[if_pos (by omega),aaa,if_pos (by simp_all),Ba hk,aaa,aaa,if_neg (by simp),xa (by omega)]) (by grind[Ho]) rfl
 simp_all
theorem Cy{l:List (List Int)}(hl:l.length<=1099511627776) (hm:∀x∈l,x.length<=1099511627776):Rm l l=some true:=by
 unfold Rm;rw[if_neg (by simp)];have:fa (oj l l) 0=some (.inl ()):=Kc (λk=>(k:Int)) l.length () (λk hk=>by
  unfold oj;rw[if_pos (by omega),aaa,if_pos (by simp_all),Ba hk,aaa,aaa,Yr (hm _ (iaa hk)),aaa,if_neg (by simp),xa (by omega)]) (by grind[oj]) rfl
 simp_all
def Bg:List (List Int)->List Int->List Int×Bool
 |l::g,a::r=>if(Bg g r).2=true then(a::(Bg g r).1,true)else if a+1<(l.length:Int)then((a+1)::(Bg g r).1,true)else(0::(Bg g r).1,false)
 |_,_=>([],false)
def Sc:List (List Int)->List Int->Prop
 |l::g,a::r=>(0<=a/\a<(l.length:Int)/\l.length<=1099511627776)/\Sc g r
 |[],[]=>True
 |_,_=>False
theorem Sc.len:∀{g:List (List Int)}{a:List Int},Sc g a->a.length=g.length
 |l::g,x::r,h=>by simp[Sc.len h.2]
 |[],[],_=>rfl
theorem jH:∀{g:List (List Int)}{a:List Int},Sc g a->(Bg g a).1.length=g.length
 |l::g,x::r,h=>by
  have:=jH h.2;unfold Bg;split<;>(try split)<;>simp[this]
 |[],[],_=>rfl
theorem RF:∀{g:List (List Int)}{a:List Int},Sc g a->Sc g (Bg g a).1
 |l::g,x::r,h=>by
  have:=RF h.2;have:=h.1;unfold Bg;split
  .exact⟨h.1,by omega⟩
  .split
   .exact⟨by omega,by omega⟩
   .exact⟨by omega,by omega⟩
 |[],[],_=>trivial
theorem kH{gr:List (List Int)}{step:List Int×Int->Option (Ex (List Int×Int) (List Int) (List Int×Bool))}
 (hs:∀a i,step (a,i)=if 0<=i then(idx a i).bind λx38=>(put a i (ea .i64 (x38+1))).bind λx39=>(idx x39 i).bind λx40=>(idx gr i).bind λx41=>if x40<(x41.length:Int)then some (.ret (x39,true))else(put x39 i 0).bind λx43=>some (.go (x43,ea .i64 (i-1)))else some (.brk a))
 (hl:gr.length<=1048576) :
 ∀{g:List (List Int)} {a:List Int},Sc g a->∀{pg:List (List Int)} {pa:List Int},pa.length=pg.length->gr=pg++g->
  fa step (pa++a,((pa.length+a.length:Nat):Int)-1)=if(Bg g a).2=true then some (.inr (pa++(Bg g a).1,true))else fa step (pa++(Bg g a).1,(pa.length:Int)-1)
 |l::g,x::r,h,pg,pa,hp,hg=>by
  have hgl:pg.length+g.length+1=gr.length:=by grind
  have hlen:=jH h.2;have ih:=kH hs hl h.2 (pg:=pg++[l]) (pa:=pa++[x]) (by grind) (by grind);have e1:pa++x::r=(pa++[x])++r:=by simp
  have e2:pa.length+(x::r).length=(pa++[x]).length+r.length:=by grind
  rw[e1,e2,ih];have hx:=h.1
  conv=>rhs;unfold Bg
  by_cases hb:(Bg g r).2=true
  .grind
  rw[if_neg hb,if_neg hb];have e3:(((pa++[x]).length:Nat):Int)-1=((pa.length:Nat):Int):=by simp
  have e4:pa++[x]++(Bg g r).1=pa++x::(Bg g r).1:=by simp
  rw[e3,e4];generalize (Bg g r).1=q at hlen⊢;have hi:pa.length<(pa++x::q).length:=by simp
  have hgi:gr[pa.length]?=some l:=by grind
  have st:step (pa++x::q,(pa.length:Int))=if x+1<(l.length:Int)then some (.ret (pa++(x+1)::q,true))else some (.go (pa++0::q,(pa.length:Int)-1)):=by
   rw[hs,if_pos (by omega),Ba hi,aaa,dw hi,aaa,List.getElem_append_right (oaa _),Ba (by simp),aaa,VH,hgi,aaa];simp only[Hab,List.getElem_cons_zero,oac]
   grind[wid,dw]
  by_cases hc:x+1<(l.length:Int)
  .rw[if_pos hc]at st;rw[cr st,if_pos hc,if_pos rfl]
  .rw[if_neg hc]at st;rw[Yd st,if_neg hc,if_neg (by simp)]
 |[],[],_,pg,pa,hp,hg=>by
  grind[Bg]
theorem pK{gr:List (List Int)}{step:List Int×Int->Option (Ex (List Int×Int) (List Int) (List Int×Bool))}
 (hs:∀a i,step (a,i)=if 0<=i then(idx a i).bind λx38=>(put a i (ea .i64 (x38+1))).bind λx39=>(idx x39 i).bind λx40=>(idx gr i).bind λx41=>if x40<(x41.length:Int)then some (.ret (x39,true))else(put x39 i 0).bind λx43=>some (.go (x43,ea .i64 (i-1)))else some (.brk a))
 (hl:gr.length<=1048576) {a:List Int} (ha:Sc gr a) :
 ((fa step (a,ea .i64 ((a.length:Int)-1))).bind λy=>match y with|.inr v=>some v|.inl b46=>some (b46,false))=some (Bg gr a):=by
 have h:=kH hs hl ha (pg:=[]) (pa:=[]) rfl rfl;have hlen:=ha.len;simp only[List.nil_append,Waa,qab]at h;rw[wid (by omega) (by omega),h];by_cases hb:(Bg gr a).2=true
 .grind
 .have st:step ((Bg gr a).1,((0:Nat):Int)-1)=some (.brk (Bg gr a).1):=by simp_all
  rw[if_neg hb,Nc st,aaa]
  grind
def ue:List (List Int)->Nat
 |[]=>1
 |l::g=>l.length*ue g
def rk:List (List Int)->List Int->Nat
 |l::g,a::r=>a.toNat*ue g+rk g r
 |_,_=>0
theorem LG{l a:List Int}{g:List (List Int)}{x:Int}:rk (l::g) (x::a)=x.toNat*ue g+rk g a:=rfl
theorem DC{l:List Int}{g:List (List Int)}:ue (l::g)=l.length*ue g:=rfl
theorem zB:∀{g:List (List Int)}{a:List Int},Sc g a->rk g a<ue g
 |l::g,x::r,h=>by
  have ih:=zB h.2;have hx:=h.1;have:(x.toNat+1)*ue g<=l.length*ue g:=Eaa _ (by omega)
  grind[LG,DC]
 |[],[],_=>by simp[rk,ue]
theorem vQ:∀{g:List (List Int)}{a b:List Int},Sc g a->Sc g b->rk g a=rk g b->a=b
 |l::g,x::r,y::q,h,k,e=>by
  have h1:=zB h.2;have k1:=zB k.2;have hx:=h.1;have ky:=k.1;unfold rk at e;have hxy:x.toNat=y.toNat:=by
   rcases Nat.lt_trichotomy x.toNat y.toNat with c|c|c
   .have:(x.toNat+1)*ue g<=y.toNat*ue g:=Eaa _ c
    grind
   .exact c
   .have:(y.toNat+1)*ue g<=x.toNat*ue g:=Eaa _ c
    grind
  rw[hxy]at e;rw[show x=y by omega,vQ h.2 k.2 (by omega)]
 |[],[],[],_,_,_=>rfl
theorem MG:∀{g:List (List Int)}{a:List Int},Sc g a->((Bg g a).2=true->rk g (Bg g a).1=rk g a+1)/\((Bg g a).2=false->rk g a+1=ue g/\rk g (Bg g a).1=0)
 |l::g,x::r,h=>by
  have ih:=MG h.2;have hx:=h.1;unfold Bg;by_cases hb:(Bg g r).2=true
  .grind[rk]
  .have:=ih.2 (Lab.2 hb);rw[if_neg hb];by_cases hc:x+1<(l.length:Int)
   .rw[if_pos hc];refine⟨λ_=>?_,λh=>by cases h⟩;unfold rk;rw[show(x+1).toNat=x.toNat+1 by omega,Pac];omega
   .rw[if_neg hc];refine⟨λh=>(by cases h),λ_=>?_⟩;have:l.length=x.toNat+1:=by omega
    rw[LG,LG,DC,this,Pac,Int.toNat_zero,Nat.zero_mul];omega
 |[],[],_=>by grind[Bg,rk,ue]
theorem QN:∀{g:List (List Int)},(∀l∈g,0<l.length/\l.length<=1099511627776)->Sc g (gaa g.length 0)/\rk g (gaa g.length 0)=0
 |[],_=>⟨trivial,rfl⟩
 |l::g,h=>by
  have ih:=QN (g:=g) λx hx=>h x (by grind);have:=h l (by simp);rw[Daa,cab];refine⟨⟨by omega,ih.1⟩,?_⟩
  grind[rk]
theorem aJ{σ β ρ:Type}{g:List (List Int)}{step:σ×List Int×Bool->Option (Ex (σ×List Int×Bool) β ρ)}(I:Nat->σ->Prop) (Done:σ->List Int->Prop) (out:σ->β)
 (hstep:∀s c,Sc g c->I (rk g c) s->∃s',step (s,c,true)=some (.go (s',Bg g c))/\I (rk g c+1) s'/\Done s' c/\∀d,Done s d->Done s' d)
 (hend:∀s c,step (s,c,false)=some (.brk (out s)))
 {s0:σ} {c0:List Int} (h0:Sc g c0) (hr:rk g c0=0) (hI:I 0 s0) :
 ∃s,fa step (s0,c0,true)=some (.inl (out s))/\I (ue g) s/\∀c,Sc g c->Done s c:=by
 have key:∀(n:Nat) (s:σ) (c:List Int),ue g-rk g c<=n->Sc g c->I (rk g c) s->(∀d,Sc g d->rk g d<rk g c->Done s d)->∃s',fa step (s,c,true)=some (.inl (out s'))/\I (ue g) s'/\∀d,Sc g d->Done s' d:=by
  intro n
  induction n with
  |zero=>intro s c hn hc;have:=zB hc;omega
  |succ n ih=>
   intro s c hn hc hi hd;obtain⟨s',h1,h2,h3,h4⟩:=hstep s c hc hi;have hn2:=MG hc;have ok:=RF hc;have all:∀d,Sc g d->rk g d<rk g c+1->Done s' d:=λd hd' hlt=>by
    grind[vQ]
   rw[Yd h1]
   cases hb:(Bg g c).2 with
   |true=>
    grind
   |false=>
    have e:=(hn2.2 hb).1;rw[show Bg g c=((Bg g c).1,false) by grind,Nc (hend s' _)];exact⟨s',rfl,by simp_all,λd hd'=>all d hd' (by simp_all[zB])⟩
 exact key _ s0 c0 (oaa _) h0 (by simp_all) λd _ hlt=>by omega
theorem ZI(g:List (List Int)) (l:List Int):ue (g++[l])=ue g*l.length:=by
 induction g with
 |nil=>simp[ue]
 |cons a g ih=>grind[ue]
theorem FD{g:List (List Int)}(hl:∀l∈g,0<l.length):∀k,k<=g.length->Cc g k=(ue (g.take k):Int)\/4096<Cc g k
 |0,_=>.inl (by simp[Cc,ue])
 |k+1,hk=>by
  have ih:=FD hl k (by omega);have hkl:k<g.length:=by omega
  have:=hl _ (iaa hkl);unfold Cc;rw[caa hkl];dsimp only;rw[Laa,caa hkl,vab,ZI]
  grind
theorem TN{g:List (List Int)}(hl:∀l∈g,0<l.length) (h:Mv g<=4096):ue g<=4096:=by
 have h0:(g.any λl=>decide (l.length=0))=false:=by
  grind
 unfold Mv at h;rw[h0,if_neg (by simp)]at h;rcases FD hl g.length (oaa _)with e|e
 all_goals grind
theorem Vm{e:List GNode}(h:Wst e) {i:Nat}(hi:i<e.length) {env:GEnv}:Jd ⟨e,(Se e e.length).1,env⟩ (i:Int)=some (ku e i):=by
 have hle:=h.le;obtain⟨a1,a2,a3⟩:=h.ar hi;have ha3:Yb e i<=12:=by have:=Jn (e:=e) (i:=i) λj hj=>h.err j (by omega);omega
 have haI:pb (ua e i).Op=(Yb e i:Int):=by grind[Yb]
 unfold Jd;dsimp only;rw[Ba hi,aaa,Zd hi,fg,aaa,haI,UB (by omega) (by omega),aaa,Raa,wid (n:=(i:Int)-1) (by omega) (by omega),wid (n:=(Yb e i:Int)-1) (by omega) (by omega),kI h hi λa b c=>by grind[Gg]];rfl
noncomputable def FE(e:List GNode) (env:GEnv) (i:Nat):GValue×Int:=((Ea (3*i+3)).1 e i env).getD (⟨0,0,0⟩,0)
structure NodeB (e:List GNode) (env:GEnv) (i:Nat):Prop where
 p:∀n,3*i+3<=n->(ca n).1 ⟨e,(Se e e.length).1,env⟩ i=some (FE e env i)
 r:∀n,3*i+3<=n->(Ea n).1 e i env=some (FE e env i)
 ok:(FE e env i).2=0->Qd (FE e env i).1
theorem iI{e:List GNode}{env:GEnv}{i:Nat}(q:GValue×Int) (h1:∀n,3*i+3<=n->(ca n).1 ⟨e,(Se e e.length).1,env⟩ i=some q) (h2:∀n,3*i+3<=n->(Ea n).1 e i env=some q) (h3:q.2=0->Qd q.1):NodeB e env i:=by
 have:FE e env i=q:=by simp_all[FE]
 exact⟨by simp_all,by simp_all,by simp_all⟩
theorem ot(e:List GNode) (i:Nat):Yb e i<=3:=by
 grind[Yb,pb]
noncomputable def yv(e:List GNode) (env:GEnv) (i:Nat):List GValue:=(uaa (Yb e i)).map λt=>(FE e env (ig e i t)).1
noncomputable def TF(e:List GNode) (env:GEnv) (i:Nat) (t:Nat):Option (GValue×Int):=if¬(FE e env (ig e i t)).2=0 then some (⟨0,0,0⟩,(FE e env (ig e i t)).2)else none
theorem Hz(e:List GNode) (i:Nat):(ku e i).length=Yb e i:=by simp[ku]
theorem Uq{e:List GNode}{i t:Nat}(h:t<Yb e i):idx (ku e i) (t:Int)=some ((ig e i t:Nat):Int):=by
 grind[ku,Ba]
theorem oy{α:Type}{f:Nat->α}{k t:Nat}(h:t<k):((uaa k).map f).take (t+1)=((uaa k).map f).take t++[f t]:=by
 grind[Laa]
theorem IW{e:List GNode}{env:GEnv}(h:Wst e) {i:Nat}(hi:i<e.length) {n:Nat}(ih:∀j,j<i->(ca n).1 ⟨e,(Se e e.length).1,env⟩ j=some (FE e env j)) :
 fa (Ya ⟨e,(Se e e.length).1,env⟩ (ku e i) (ca n).1) (gaa (Yb e i) ⟨0,0,0⟩,0)=some (Vb (yv e env i) (ff (TF e env i) (Yb e i))):=by
 have hl:=Hz e i;have h3:=ot e i;refine Kb (step:=Ya ⟨e,(Se e e.length).1,env⟩ (ku e i) (ca n).1) (λt=>((yv e env i).take t++gaa (Yb e i-t) ⟨0,0,0⟩,(t:Int))) (TF e env i) (Yb e i) (yv e env i) (λt ht _=>?_) (λ_=>?_) (by simp)
 .obtain⟨o1,-⟩:=jg h hi ht;have hlen:(yv e env i).length=Yb e i:=by simp[yv]
  unfold Ya;dsimp only;rw[if_pos (by omega),Uq ht,aaa,ih _ o1,aaa];unfold TF;by_cases hc:(FE e env (ig e i t)).2=0
  .rw[if_neg (vaa.2 hc),if_neg (vaa.2 hc)];rw[Ba (by grind),aaa,dw (by grind),aaa,xa (by omega)];unfold lC;dsimp only;congr 3;rw[Yab _ _ (by grind),show t-((yv e env i).take t).length=0 by grind,show Yb e i-t=(Yb e i-(t+1))+1 by omega,cab,Gab]
   grind[yv,oy]
  .rw[if_pos hc,if_pos hc];rfl
 .unfold Ya;dsimp only;rw[if_neg (by omega),Hab];have hlen:(yv e env i).length=Yb e i:=by simp[yv]
  grind
theorem JW{e:List GNode}{env:GEnv}(h:Wst e) {i:Nat}(hi:i<e.length) {n:Nat}(ih:∀j,j<i->(Ea n).1 e j env=some (FE e env j)) :
 fa (bj e env (ku e i) (Ea n).1) (([]:List GValue),0)=some (Vb (yv e env i) (ff (TF e env i) (Yb e i))):=by
 have hl:=Hz e i;have h3:=ot e i;refine Kb (step:=bj e env (ku e i) (Ea n).1) (λt=>((yv e env i).take t,(t:Int))) (TF e env i) (Yb e i) (yv e env i) (λt ht _=>?_) (λ_=>?_) (by simp)
 .obtain⟨o1,-⟩:=jg h hi ht;unfold bj;dsimp only;rw[if_pos (by omega),Uq ht,aaa,ih _ o1,aaa];unfold TF;by_cases hc:(FE e env (ig e i t)).2=0
  .rw[if_neg (vaa.2 hc),if_neg (vaa.2 hc)]
   grind[lC,yv,Xe,xa,oy]
  .rw[if_pos hc,if_pos hc];rfl
 .unfold bj;dsimp only;have hlen:(yv e env i).length=Yb e i:=by simp[yv]
  grind
theorem IK{op:Int}{α:Type}{k:Bool->Option α}:(baa (α:=Bool) (if op=23 then some true else if op=24 then some true else some (op==26)) k)=k (decide (op=23\/op=24\/op=26)):=by
 grind
theorem oP{op:Int}{α:Type}{k:Bool->Option α}:(baa (α:=Bool) (if¬op=23 then if¬op=24 then some (op==26)else some true else some true) k)=k (decide (op=23\/op=24\/op=26)):=by
 grind
def Fk(p:GValue×Int):GValue×Int:=if¬p.2=0 then(⟨0,0,0⟩,p.2)else if p.1.Kind=1/\Qd p.1 then p else(⟨0,0,0⟩,8)
theorem D0{v:GValue}{α:Type}{k:Bool->Option α}:(baa (α:=Bool) (if v.Kind=1 then(Ub v).bind λx4=>some (!x4)else some true) k)=k (decide (¬(v.Kind=1/\Qd v))):=by
 grind[Nn,wc]
theorem XW{v:GValue}{α:Type}{k:Bool->Option α}:(baa (α:=Bool) (if v.Kind=1 then(Rb v).bind λx4=>some (!x4)else some true) k)=k (decide (¬(v.Kind=1/\Qd v))):=by
 grind[Nn,Rg]
theorem IN{R214:GEval_evaluator->Int->Option (GValue×Int)}{R250 R275}{x:GEval_evaluator}{j:Int}{p:GValue×Int}(h:R214 x j=some p):Db R214 R250 R275 x j=some (Fk p):=by
 unfold Db Fk;rw[h,aaa];simp only[D0]
 grind
def Cx(op N:Int) (p0 p1 p2:GValue×Int):GValue×Int:=
 if¬N=0 then(⟨0,0,0⟩,2)else
 if¬(Fk p0).2=0 then(⟨0,0,0⟩,(Fk p0).2)else
 if op=26 then(if(Fk p0).1.N=1 then p1 else p2)else
 if(op==23)=((Fk p0).1.N==0)then((Fk p0).1,0)else Fk p1
theorem cI{op N:Int}{p0 p1 p2:GValue×Int}(h1:p1.2=0->Qd p1.1) (h2:p2.2=0->Qd p2.1):(Cx op N p0 p1 p2).2=0->Qd (Cx op N p0 p1 p2).1:=by
 grind[Cx,Fk]
theorem OT{e:List GNode}(h:Wst e) {env:GEnv}(hA:∀i,i<e.length->¬((ua e i).Op=23\/(ua e i).Op=24\/(ua e i).Op=26)->It (ab (ua e i) (yv e env i) env) (Cl (ua e i) (yv e env i) env)):∀i,i<e.length->NodeB e env i:=by
 intro i
 induction i using aac with
 |_ i ih=>
  intro hi;have hle:=h.le;have har:=h.ar hi;have hga:=ot e i;have hops:=Hz e i;by_cases hlz:(ua e i).Op=23\/(ua e i).Op=24\/(ua e i).Op=26
  .have hk:2<=Yb e i/\((ua e i).Op=26->Yb e i=3):=by
    unfold Yb;rcases hlz with h|h|h<;>rw[h]<;>decide
   have o0:=(jg h hi (j:=0) (by omega)).1;have o1:=(jg h hi (j:=1) (by omega)).1;have b0:=ih _ o0 (by omega);have b1:=ih _ o1 (by omega);have i0:idx (ku e i) 0=some ((ig e i 0:Nat):Int):=Uq (t:=0) (by omega);have i1:idx (ku e i) 1=some ((ig e i 1:Nat):Int):=Uq (t:=1) (by omega);have hb2:(ua e i).Op=26->NodeB e env (ig e i 2)/\ig e i 2<i/\idx (ku e i) 2=some ((ig e i 2:Nat):Int):=λh26=>by
    grind[jg,Uq]
   refine iI (Cx (ua e i).Op (ua e i).N (FE e env (ig e i 0)) (FE e env (ig e i 1)) (if(ua e i).Op=26 then FE e env (ig e i 2)else(⟨0,0,0⟩,1))) (λn hn=>?_) (λn hn=>?_) (cI b1.ok (by
    split
    .rename_i h26;exact(hb2 h26).1.ok
    omega))
   .obtain⟨n,rfl⟩:∃m,n=m+3:=⟨n-3,by omega⟩;show Va (ca (n+2)).1 (ca (n+2)).2.1 (ca (n+2)).2.2 _ _=_;unfold Va;dsimp only;rw[Ba hi,aaa,Zd hi,Vm h hi,aaa,IK,decide_eq_true hlz,if_pos rfl,Dq];show zc (ca (n+1)).1 (ca (n+1)).2.1 (ca (n+1)).2.2 _ _ _=_;unfold zc Cx;by_cases hN0:(ua e i).N=0
    case neg=>simp_all
    rw[if_neg (vaa.2 hN0),if_neg (vaa.2 hN0),i0,aaa];have hbo:∀j,j<i->NodeB e env j->(ca (n+1)).2.2 ⟨e,(Se e e.length).1,env⟩ (j:Int)=some (Fk (FE e env j)):=λj hj hb=>(show Db (ca n).1 (ca n).2.1 (ca n).2.2 _ _=_ from IN (hb.p n (by omega)));rw[hbo _ o0 b0,aaa];by_cases hc:(Fk (FE e env (ig e i 0))).2=0
    case neg=>simp_all
    rw[if_neg (vaa.2 hc),if_neg (vaa.2 hc)];by_cases h26:(ua e i).Op=26
    .obtain⟨c1,c2,c3⟩:=hb2 h26;rw[if_pos h26,if_pos h26,aaa,if_pos h26,if_pos h26];by_cases h1:(Fk (FE e env (ig e i 0))).1.N=1
     .rw[if_pos (by simp_all),if_pos h1,i1,aaa,Dq];exact b1.p (n+1) (by omega)
     .rw[if_neg (by simp_all),if_neg h1,c3,aaa,Dq];exact c1.p (n+1) (by omega)
    grind
   .obtain⟨n,rfl⟩:∃m,n=m+3:=⟨n-3,by omega⟩;show Ai (Ea (n+2)).1 (Ea (n+2)).2 _ _ _=_;unfold Ai;rw[gp h hi,aaa,Ba hi,aaa,Zd hi,oP,decide_eq_true hlz,if_pos rfl,Dq];show uo (Ea (n+1)).1 (Ea (n+1)).2 _ _ _ _=_;unfold uo Cx;rw[Ba hi,aaa,Zd hi];by_cases hN0:(ua e i).N=0
    case neg=>simp_all
    rw[if_neg (vaa.2 hN0),if_neg (vaa.2 hN0),i0,aaa,b0.r (n+1) (by omega),aaa];simp only[XW];obtain⟨q0,hq0⟩:∃q,FE e env (ig e i 0)=q:=⟨_,rfl⟩;rw[hq0];by_cases c0:q0.2=0
    case neg=>
     simp_all[Fk]
    rw[if_neg (vaa.2 c0)];by_cases c1:q0.1.Kind=1/\Qd q0.1
    case neg=>
     have:Fk q0=(⟨0,0,0⟩,8):=by simp_all[Fk]
     simp_all
    have hbq:Fk q0=q0:=by simp_all[Fk]
    rw[decide_eq_false (p:=¬(q0.1.Kind=1/\Qd q0.1)) (λh=>h c1),if_neg (by simp),hbq,if_neg (vaa.2 c0)];by_cases h26:(ua e i).Op=26
    .obtain⟨d1,d2,d3⟩:=hb2 h26;rw[if_pos h26,if_pos h26,if_pos h26];by_cases h1:q0.1.N=1
     .rw[if_pos h1,if_pos h1,i1,aaa,Dq];exact b1.r (n+1) (by omega)
     .rw[if_neg h1,if_neg h1,d3,aaa,Dq];exact d1.r (n+1) (by omega)
    .rw[if_neg h26,if_neg h26];split
     .rfl
     .rw[i1,aaa,b1.r (n+1) (by omega),aaa];obtain⟨q1,hq1⟩:∃q,FE e env (ig e i 1)=q:=⟨_,rfl⟩;rw[hq1];unfold Fk
      grind
  .obtain⟨q,q1,q2,q3⟩:=hA i hi hlz;have hff:∀v,ff (TF e env i) (Yb e i)=some v->v.2≠0:=by
    grind[TF,Ta]
   refine iI (match ff (TF e env i) (Yb e i)with|some v=>v|none=>q) (λn hn=>?_) (λn hn=>?_) ?_
   .obtain⟨n,rfl⟩:∃m,n=m+1:=⟨n-1,by omega⟩;show Va (ca n).1 (ca n).2.1 (ca n).2.2 _ _=_;unfold Va;dsimp only;rw[Ba hi,aaa,Zd hi,Vm h hi,aaa,IK,decide_eq_false hlz,if_neg (by simp),hops,UB (by omega) (by omega),aaa,IW h hi (λj hj=>(ih j hj (by omega)).p n (by omega)),aaa]
    grind[JJ,LJ]
   .obtain⟨n,rfl⟩:∃m,n=m+1:=⟨n-1,by omega⟩;show Ai (Ea n).1 (Ea n).2 _ _ _=_;unfold Ai;rw[gp h hi,aaa,Ba hi,aaa,Zd hi,oP,decide_eq_false hlz,if_neg (by simp),JW h hi (λj hj=>(ih j hj (by omega)).r n (by omega)),aaa]
    grind[JJ,LJ]
   grind
theorem ER{e:List GNode}{env:GEnv}(h:Wst e) (hb:NodeB e env (e.length-1)):∃p,Hb e env=some p/\lp e env=some p/\(p.2=0->Qd p.1):=by
 have hf:1000000<=Gc:=by grind[Gc]
 have hp:=h.pos;have hle:=h.le;unfold Hb lp Fh Xq;rw[Qi,qo];simp only[aaa];rw[vp h];have e1:ea .i64 ((e.length:Int)-1)=((e.length-1:Nat):Int):=by grind[wid]
 unfold Uf Vs;rw[e1];dsimp only;rw[if_neg (by decide),if_neg (by decide),hb.p _ (by omega),hb.r _ (by omega)];exact⟨_,rfl,rfl,hb.ok⟩
theorem BN{l:List GValue}(hl:l.length<=1048576):Wd l=some (l.all Nn):=by
 have e1:fa (Zb l) 0=some (Vb () (ff (λi=>if(l[i]?.any λv=>!Nn v)=true then some false else none) l.length)):=
  Kb (λi=>(i:Int)) _ l.length () (λi hi _=>by
   unfold Zb;rw[if_pos (by omega),Ba hi,caa hi]
   grind[lC,wc,xa]) (λ_=>by grind[Zb])
 unfold Wd;rw[e1];by_cases h:l.all Nn=true
 .have hn:∀i,i<l.length->(l[i]?.any λv=>!Nn v)=false:=by
   simp_all
  rw[Xb.2 (λi hi=>by simp_all),h];rfl
 .have hb:l.all Nn=false:=by simp_all
  obtain⟨x,hx,hx2⟩:∃x∈l,Nn x=false:=by
   simp_all
  obtain⟨k,hk,rfl⟩:=Aaa hx;have ne:ff (λi=>if(l[i]?.any λv=>!Nn v)=true then some false else none) l.length=some false:=by
   cases hf:ff (λi=>if(l[i]?.any λv=>!Nn v)=true then some false else none) l.length with
   |none=>
    grind[Xb]
   |some w=>
    obtain⟨i,_,h2,_⟩:=Ta.1 hf
    simp_all
  rw[ne,hb];rfl
theorem pH{n:GNode}{args:List GValue}{env:GEnv}(ha:args.length<=3) (h:1<=n.Op/\n.Op<=39->pb n.Op=args.length->pN n=true->Ko n env=true->(∀a∈args,Qd a)->FB (Xc n args env)):FB (ab n args env):=by
 unfold ab;rw[Iw,fg,Ct,BN (l:=args) (by omega)];simp only[aaa];have err:∀{c:Int},c≠0->FB (some (⟨0,0,0⟩,c)):=λh=>⟨_,rfl,λh2=>absurd h2 h⟩;by_cases h1:1<=n.Op/\n.Op<=39
 case neg=>grind
 rw[decide_eq_true h1];simp only[Uaa];by_cases h2:pN n=true
 case neg=>simp_all
 rw[h2];simp only[if_true];by_cases h3:pb n.Op=args.length
 case neg=>
  grind
 have:((args.length:Int) !=pb n.Op)=false:=by grind
 rw[this];simp only[aaa,haa,if_false];by_cases h4:Ko n env=true
 case neg=>simp_all
 rw[h4];simp only[saa,if_false];by_cases h5:args.all Nn=true
 case neg=>grind
 rw[h5];simp only[if_true];have hp:∀a∈args,Qd a:=λa ha=>of_decide_eq_true (Oaa.1 h5 a ha);have hc:=h h1 h3 h2 h4 hp;have e1:(baa (α:=Bool) ((sa n args env).bind λx10=>some (!x10)) λj11=>if j11=true then some ((⟨0,0,0⟩:GValue),(8:Int))else(Ia n args env).bind λx13=>if¬x13.2=0 then some (⟨0,0,0⟩,x13.2)else(Ub x13.1).bind λx15=>if x15=false then some (⟨0,0,0⟩,3)else some (x13.1,0))=Xc n args env:=by
  unfold Xc
  cases sa n args env with
  |none=>rfl
  |some b=>
   grind[wc]
 simp_all
noncomputable def Cn(e:List GNode) (env:GEnv) (i:Nat):GValue×Int:=((ca (3*i+3)).1 ⟨e,(Se e e.length).1,env⟩ i).getD (⟨0,0,0⟩,0)
noncomputable def Pn(e:List GNode) (env:GEnv) (i:Nat):List GValue:=(uaa (Yb e i)).map λt=>(Cn e env (ig e i t)).1
noncomputable def Py(e:List GNode) (env:GEnv) (i:Nat) (t:Nat):Option (GValue×Int):=if¬(Cn e env (ig e i t)).2=0 then some (⟨0,0,0⟩,(Cn e env (ig e i t)).2)else none
noncomputable def rJ(e:List GNode) (env:GEnv) (i:Nat):GValue×Int:=
 if(ua e i).Op=23\/(ua e i).Op=24\/(ua e i).Op=26 then
  Cx (ua e i).Op (ua e i).N (Cn e env (ig e i 0)) (Cn e env (ig e i 1)) (if(ua e i).Op=26 then Cn e env (ig e i 2)else(⟨0,0,0⟩,1))
 else match ff (Py e env i) (Yb e i)with
  |some v=>v
  |none=>(ab (ua e i) (Pn e env i) env).getD (⟨0,0,0⟩,0)
structure NodeP (e:List GNode) (env:GEnv) (i:Nat):Prop where
 p:∀n,3*i+3<=n->(ca n).1 ⟨e,(Se e e.length).1,env⟩ i=some (Cn e env i)
 ok:(Cn e env i).2=0->Qd (Cn e env i).1
 q:Cn e env i=rJ e env i
theorem jI{e:List GNode}{env:GEnv}{i:Nat}(h1:∀n,3*i+3<=n->(ca n).1 ⟨e,(Se e e.length).1,env⟩ i=some (rJ e env i)) (h3:(rJ e env i).2=0->Qd (rJ e env i).1):NodeP e env i:=by
 have:Cn e env i=rJ e env i:=by
  simp_all[Cn]
 exact⟨by simp_all,by simp_all,this⟩
theorem OR{e:List GNode}{env:GEnv}(h:Wst e) {i:Nat}(hi:i<e.length) {n:Nat}(ih:∀j,j<i->(ca n).1 ⟨e,(Se e e.length).1,env⟩ j=some (Cn e env j)) :
 fa (Ya ⟨e,(Se e e.length).1,env⟩ (ku e i) (ca n).1) (gaa (Yb e i) ⟨0,0,0⟩,0)=some (Vb (Pn e env i) (ff (Py e env i) (Yb e i))):=by
 have hl:=Hz e i;have h3:=ot e i;refine Kb (step:=Ya ⟨e,(Se e e.length).1,env⟩ (ku e i) (ca n).1) (λt=>((Pn e env i).take t++gaa (Yb e i-t) ⟨0,0,0⟩,(t:Int))) (Py e env i) (Yb e i) (Pn e env i) (λt ht _=>?_) (λ_=>?_) (by simp)
 .obtain⟨o1,-⟩:=jg h hi ht;have hlen:(Pn e env i).length=Yb e i:=by simp[Pn]
  unfold Ya;dsimp only;rw[if_pos (by omega),Uq ht,aaa,ih _ o1,aaa];unfold Py;by_cases hc:(Cn e env (ig e i t)).2=0
  .rw[if_neg (vaa.2 hc),if_neg (vaa.2 hc)];rw[Ba (by grind),aaa,dw (by grind),aaa,xa (by omega)];unfold lC;dsimp only;congr 3;rw[Yab _ _ (by grind),show t-((Pn e env i).take t).length=0 by grind,show Yb e i-t=(Yb e i-(t+1))+1 by omega,cab,Gab]
   grind[Pn,oy]
  .rw[if_pos hc,if_pos hc];rfl
 .unfold Ya;dsimp only;rw[if_neg (by omega),Hab];have hlen:(Pn e env i).length=Yb e i:=by simp[Pn]
  grind
theorem HJ{e:List GNode}(h:Wst e) {env:GEnv}(hA:∀i,i<e.length->¬((ua e i).Op=23\/(ua e i).Op=24\/(ua e i).Op=26)->FB (ab (ua e i) (Pn e env i) env)):∀i,i<e.length->NodeP e env i:=by
 intro i
 induction i using aac with
 |_ i ih=>
  intro hi;have hle:=h.le;have har:=h.ar hi;have hga:=ot e i;have hops:=Hz e i;by_cases hlz:(ua e i).Op=23\/(ua e i).Op=24\/(ua e i).Op=26
  .have hk:2<=Yb e i/\((ua e i).Op=26->Yb e i=3):=by
    unfold Yb;rcases hlz with h|h|h<;>rw[h]<;>decide
   have o0:=(jg h hi (j:=0) (by omega)).1;have o1:=(jg h hi (j:=1) (by omega)).1;have b0:=ih _ o0 (by omega);have b1:=ih _ o1 (by omega);have i0:idx (ku e i) 0=some ((ig e i 0:Nat):Int):=Uq (t:=0) (by omega);have i1:idx (ku e i) 1=some ((ig e i 1:Nat):Int):=Uq (t:=1) (by omega);have hb2:(ua e i).Op=26->NodeP e env (ig e i 2)/\ig e i 2<i/\idx (ku e i) 2=some ((ig e i 2:Nat):Int):=λh26=>by
    grind[jg,Uq]
   have hq:rJ e env i=_:=if_pos hlz;refine jI (λn hn=>?_) (by
    rw[hq];exact cI b1.ok (by
     split
     .rename_i h26;exact(hb2 h26).1.ok
     omega))
   rw[hq];obtain⟨n,rfl⟩:∃m,n=m+3:=⟨n-3,by omega⟩;show Va (ca (n+2)).1 (ca (n+2)).2.1 (ca (n+2)).2.2 _ _=_;unfold Va;dsimp only;rw[Ba hi,aaa,Zd hi,Vm h hi,aaa,IK,decide_eq_true hlz,if_pos rfl,Dq];show zc (ca (n+1)).1 (ca (n+1)).2.1 (ca (n+1)).2.2 _ _ _=_;unfold zc Cx;by_cases hN0:(ua e i).N=0
   case neg=>simp_all
   rw[if_neg (vaa.2 hN0),if_neg (vaa.2 hN0),i0,aaa];have hbo:∀j,j<i->NodeP e env j->(ca (n+1)).2.2 ⟨e,(Se e e.length).1,env⟩ (j:Int)=some (Fk (Cn e env j)):=λj hj hb=>(show Db (ca n).1 (ca n).2.1 (ca n).2.2 _ _=_ from IN (hb.p n (by omega)));rw[hbo _ o0 b0,aaa];by_cases hc:(Fk (Cn e env (ig e i 0))).2=0
   case neg=>simp_all
   rw[if_neg (vaa.2 hc),if_neg (vaa.2 hc)];by_cases h26:(ua e i).Op=26
   .obtain⟨c1,c2,c3⟩:=hb2 h26;rw[if_pos h26,if_pos h26,aaa,if_pos h26,if_pos h26];by_cases h1:(Fk (Cn e env (ig e i 0))).1.N=1
    .rw[if_pos (by simp_all),if_pos h1,i1,aaa,Dq];exact b1.p (n+1) (by omega)
    .rw[if_neg (by simp_all),if_neg h1,c3,aaa,Dq];exact c1.p (n+1) (by omega)
   grind
  .obtain⟨q,q1,q3⟩:=hA i hi hlz;have hff:∀v,ff (Py e env i) (Yb e i)=some v->v.2≠0:=by
    grind[Py,Ta]
   have hq:rJ e env i=(match ff (Py e env i) (Yb e i)with|some v=>v|none=>q):=by
    simp_all[rJ]
   refine jI (λn hn=>?_) ?_
   .rw[hq];obtain⟨n,rfl⟩:∃m,n=m+1:=⟨n-1,by omega⟩;show Va (ca n).1 (ca n).2.1 (ca n).2.2 _ _=_;unfold Va;dsimp only;rw[Ba hi,aaa,Zd hi,Vm h hi,aaa,IK,decide_eq_false hlz,if_neg (by simp),hops,UB (by omega) (by omega),aaa,OR h hi (λj hj=>(ih j hj (by omega)).p n (by omega)),aaa]
    grind[JJ,LJ]
   grind
theorem uN{e:List GNode}{env:GEnv}(h:Wst e) (hb:NodeP e env (e.length-1)):Hb e env=some (Cn e env (e.length-1))/\((Cn e env (e.length-1)).2=0->Qd (Cn e env (e.length-1)).1):=by
 have hf:1000000<=Gc:=by grind[Gc]
 have hp:=h.pos;have hle:=h.le;unfold Hb Fh;rw[Qi];simp only[aaa];rw[vp h];have e1:ea .i64 ((e.length:Int)-1)=((e.length-1:Nat):Int):=by grind[wid]
 unfold Uf;rw[e1];dsimp only;rw[if_neg (by decide),hb.p _ (by omega)];exact⟨rfl,hb.ok⟩
theorem Sl{n:GNode}{args:List GValue}{env:GEnv}(ha:args.length<=3):ab n args env=if 1<=n.Op/\n.Op<=39/\pN n=true/\pb n.Op=args.length then(if Ko n env=true then(if args.all Nn=true then Xc n args env else some (⟨0,0,0⟩,8))else some (⟨0,0,0⟩,6))else some (⟨0,0,0⟩,2):=by
 by_cases h1:1<=n.Op/\n.Op<=39/\pN n=true/\pb n.Op=args.length
 .rw[if_pos h1];unfold ab;rw[Iw,fg,Ct,BN (l:=args) (by omega),decide_eq_true ⟨h1.1,h1.2.1⟩,h1.2.2.1];have hb:((args.length:Int) !=pb n.Op)=false:=by simp_all
  simp only[aaa,Bool.and_self,if_true,hb,haa,if_false];cases Ko n env
  .rfl
  cases args.all Nn
  .rfl
  simp only[aaa,if_true,haa,saa,if_false];unfold Xc
  cases sa n args env with
  |none=>rfl
  |some b=>
   grind[wc]
 .rw[if_neg h1];unfold ab;rw[Iw,fg]
  grind
def zE(op a b:Int):Bool:=if op=19 then a==b else if op=20 then a !=b else if op=21 then decide (a<b)else decide (a<=b)
def O8(b:Bool):GValue×Int:=(⟨1,0,if b=true then 1 else 0⟩,0)
theorem GC{op N:Int}{a b:GValue}{env:GEnv}(hop:19<=op/\op<=22):Xc ⟨op,N⟩ [a,b] env=some (if TG a b/\(21<=op->2<=a.Kind/\a.Kind<=5)then O8 (zE op a.N b.N)else(⟨0,0,0⟩,8)):=by
 have hk:(2<=a.Kind/\a.Kind<=5)↔((2<=a.Kind/\a.Kind<=4)\/a.Kind=5):=by omega
 have hal:sa ⟨op,N⟩ [a,b] env=some (decide (TG a b/\(21<=op->2<=a.Kind/\a.Kind<=5))):=by
  rw[CN (by omega)];rcases(by omega:op=19\/op=20\/op=21\/op=22)with rfl|rfl|rfl|rfl<;>simp only[ic,maa,if_true,if_false,aaa,Oj,sq,jG,kaa,haa,hk]
  all_goals grind
 have hc:Ia ⟨op,N⟩ [a,b] env=some (⟨1,0,if zE op a.N b.N=true then 1 else 0⟩,0):=by
  rw[gG (by omega)];rcases(by omega:op=19\/op=20\/op=21\/op=22)with rfl|rfl|rfl|rfl<;>simp only[Hd,zE,maa,kaa,if_true,if_false,haa,aaa,td]
 by_cases h:TG a b/\(21<=op->2<=a.Kind/\a.Kind<=5)
 .rw[decide_eq_true h]at hal;rw[mr hal hc,if_pos h,if_pos rfl,nn];rfl
 simp_all[Wy,if_neg]
theorem vH{N:Int}{a:GValue}{env:GEnv}:Xc ⟨25,N⟩ [a] env=some (if a.Kind=1 then O8 (a.N==0)else(⟨0,0,0⟩,8)):=by
 by_cases hn:a.Kind=1
 .rw[mr (v:=⟨1,0,if(a.N==0)=true then 1 else 0⟩) (e:=0) (by grind[sa,Ac,wg]) (by simp only[Ia,maa,if_false,aaa,kaa,haa,wg,Xo,td,Daa,Waa,if_true,qab,Oac]),if_pos hn,if_pos rfl,nn];rfl
 simp_all[sa,Ac,Wy,wg]
theorem mA{op N:Int}{env:GEnv}(h:1<=op/\op<=5):Xc ⟨op,N⟩ [] env=some (Hk ⟨op,0,N⟩):=by
 rw[mr (v:=⟨op,0,N⟩) (e:=0) (by rcases(by omega:op=1\/op=2\/op=3\/op=4\/op=5)with rfl|rfl|rfl|rfl|rfl<;>simp[sa]) (by rcases(by omega:op=1\/op=2\/op=3\/op=4\/op=5)with rfl|rfl|rfl|rfl|rfl<;>simp[Ia]),if_pos rfl]
theorem qF{N:Int}{env:GEnv}:Xc ⟨6,N⟩ [] env=some (Hk ⟨6,ea .i64 (Baa N 16),Jaa N 16⟩):=by
 rw[mr (v:=⟨6,ea .i64 (Baa N 16),Jaa N 16⟩) (e:=0) (by simp[sa]) (by simp[Ia]),if_pos rfl]
theorem Xy{N:Int}{env:GEnv}{v:GValue}(hi:idx env.Inputs N=some v) (hv:Nn v=true):Xc ⟨7,N⟩ [] env=some (v,0):=by
 rw[mr (v:=v) (e:=0) (by grind[sa,wc]) (by grind[Ia]),if_pos rfl]
 simp_all[Hk]
def Bm(op:Int):Prop:=op=1\/op=7\/op=25\/(2<=op/\op<=6)\/(19<=op/\op<=22)
theorem nz{e:List GNode}{i:Nat}(h:Yn e i=true):Bm (ua e i).Op\/(ua e i).Op=23\/(ua e i).Op=24:=by
 unfold Yn Rx Dz at h;unfold Bm
 grind
theorem ZC{n:GNode}{args:List GValue}{env:GEnv}(hl:args.length<=3) (ho:Bm n.Op):FB (ab n args env):=by
 refine pH hl λh1 h2 h3 h4 h5=>?_;obtain⟨op,N⟩:=n;dsimp only at h1 h2 ho;have h2':args.length=(pb op).toNat:=by omega
 unfold Bm at ho;rcases(by omega:op=1\/op=2\/op=3\/op=4\/op=5\/op=6\/op=7\/op=25\/op=19\/op=20\/op=21\/op=22)with rfl|rfl|rfl|rfl|rfl|rfl|rfl|rfl|rfl|rfl|rfl|rfl
 all_goals
  first
  |(obtain rfl:=List.length_eq_zero_iff.1 h2';first|exact iN (by omega)|exact gV|exact iV h4)
  |(match args,h2' with|[a],_=>exact jR (h5 a (by simp)))
  |(match args,h2' with|[a,b],_=>grind[gR,iR])
def iH(e:List GNode) (k:Int) (v w:GValue):Prop:=
 v=w\/(v.Kind=w.Kind/\v.Enum=w.Enum/\2<=v.Kind/\v.Kind<=5/\∀i,i<e.length->Rx (ua e i).Op=true->∀c,qx e i=some (k,c)->c.Op≠6->(v.N<c.N↔w.N<c.N)/\(c.N<v.N↔c.N<w.N))
structure InSame (e:List GNode) (a b:List GValue):Prop where
 len:a.length=b.length
 pl:∀v∈a,Qd v
 pr:∀v∈b,Qd v
 sm:∀(k:Nat) v w,(∃i,i<e.length/\(ua e i).Op=7/\(ua e i).N=(k:Int))->a[k]?=some v->b[k]?=some w->iH e k v w
structure NodeS (e:List GNode) (x y:GEnv) (i:Nat):Prop where
 px:NodeP e x i
 py:NodeP e y i
 eq:Cn e x i=Cn e y i\/((ua e i).Op=7/\(Cn e x i).2=0/\(Cn e y i).2=0/\iH e (ua e i).N (Cn e x i).1 (Cn e y i).1)
theorem iH.kind{e:List GNode}{k:Int}{v w:GValue}(h:iH e k v w):v=w\/(v.Kind=w.Kind/\v.Enum=w.Enum/\2<=v.Kind/\v.Kind<=5):=by
 rcases h with h|⟨h1,h2,h3,h4,-⟩
 all_goals simp_all
theorem NodeS.bool{e:List GNode}{x y:GEnv}{i:Nat}(h:NodeS e x y i):Fk (Cn e x i)=Fk (Cn e y i):=by
 rcases h.eq with h|⟨-,h1,h2,h3⟩
 .rw[h]
 .rcases h3.kind with h3|⟨k1,-,k2,k3⟩
  all_goals grind[Fk]
theorem NodeS.err{e:List GNode}{x y:GEnv}{i:Nat}(h:NodeS e x y i):(Cn e x i).2=(Cn e y i).2:=by
 rcases h.eq with h|⟨-,h1,h2,-⟩
 all_goals simp_all
theorem zL{e:List GNode}{x y:GEnv}{i:Nat}(h:∀t,t<Yb e i->NodeS e x y (ig e i t)):ff (Py e x i) (Yb e i)=ff (Py e y i) (Yb e i):=
 NH λt ht=>by unfold Py;rw[(h t ht).err]
theorem aD{n:GNode}{x y:GEnv}(h:Bm n.Op) (h7:n.Op≠7):Ko n x=Ko n y:=by
 unfold Bm at h
 grind[Ko]
theorem XZ{e:List GNode}{x:GEnv}{i:Nat}(h:Yb e i=1):Pn e x i=[(Cn e x (ig e i 0)).1]:=by grind[Pn]
theorem YZ{e:List GNode}{x:GEnv}{i:Nat}(h:Yb e i=2):Pn e x i=[(Cn e x (ig e i 0)).1,(Cn e x (ig e i 1)).1]:=by unfold Pn;rw[h];rfl
theorem uH{v w c:Int}(h:(v<c↔w<c)/\(c<v↔c<w)) (op:Int):zE op v c=zE op w c/\zE op c v=zE op c w:=by
 have h3:v=c↔w=c:=by omega
 grind[zE]
theorem LH{e:List GNode}{x:GEnv}{i:Nat}(h:(ua e i).Op=23\/(ua e i).Op=24):rJ e x i=Cx (ua e i).Op (ua e i).N (Cn e x (ig e i 0)) (Cn e x (ig e i 1)) (⟨0,0,0⟩,1):=by
 grind[rJ]
theorem uG{e:List GNode}{x:GEnv}{i:Nat}(h:Bm (ua e i).Op):rJ e x i=(match ff (Py e x i) (Yb e i)with|some v=>v|none=>(ab (ua e i) (Pn e x i) x).getD (⟨0,0,0⟩,0)):=by
 unfold Bm at h
 grind[rJ]
theorem PV{ρ:Type}{f:Nat->Option ρ}:ff f 0=none:=by grind[ff]
theorem ap0{n:GNode}{x y:GEnv}(h:1<=n.Op/\n.Op<=6):ab n [] x=ab n [] y:=by
 rw[Sl (by simp),Sl (by simp),aD (x:=x) (y:=y) (by unfold Bm;omega) (by omega)];obtain⟨op,N⟩:=n
 grind[qF,mA]
theorem ap1{n:GNode}{x y:GEnv}(h:n.Op=25) {a b:GValue}(hp:Nn a=Nn b) (hab:a=b\/(a.Kind=b.Kind/\2<=a.Kind)):ab n [a] x=ab n [b] y:=by
 rw[Sl (by simp),Sl (by simp),aD (x:=x) (y:=y) (by unfold Bm;omega) (by omega)];obtain⟨op,N⟩:=n;dsimp only at h;subst h;have:Xc ⟨25,N⟩ [a] x=Xc ⟨25,N⟩ [b] y:=by
  rw[vH,vH]
  grind
 simp_all
theorem ap2{n:GNode}{x y:GEnv}(h:19<=n.Op/\n.Op<=22) {a a' b b':GValue}(hp:Nn a=Nn a') (hq:Nn b=Nn b') (ha:a.Kind=a'.Kind/\a.Enum=a'.Enum) (hb:b.Kind=b'.Kind/\b.Enum=b'.Enum)
 (hc:TG a b->zE n.Op a.N b.N=zE n.Op a'.N b'.N):ab n [a,b] x=ab n [a',b'] y:=by
 rw[Sl (by simp),Sl (by simp),aD (x:=x) (y:=y) (by unfold Bm;omega) (by omega)];obtain⟨op,N⟩:=n;have:Xc ⟨op,N⟩ [a,b] x=Xc ⟨op,N⟩ [a',b'] y:=by
  rw[GC h,GC h];by_cases hs:TG a b
  .have hs':TG a' b':=by unfold TG at hs⊢;omega
   simp_all
  .have hs':¬TG a' b':=by unfold TG at hs⊢;omega
   simp_all
 simp_all
theorem JK{e:List GNode}{z:GEnv}{j:Nat}(hp:NodeP e z j) (hl:Dz (ua e j).Op=true) (h0:(Cn e z j).2=0):((ua e j).Op=6/\(Cn e z j).1.Kind=6)\/((ua e j).Op≠6/\(Cn e z j).1.N=(ua e j).N):=by
 unfold Dz at hl;simp only[laa,decide_eq_true_eq]at hl;have har:Yb e j=0:=by
  unfold Yb;rcases(by omega:(ua e j).Op=2\/(ua e j).Op=3\/(ua e j).Op=4\/(ua e j).Op=5\/(ua e j).Op=6)with h|h|h|h|h<;>rw[h]<;>decide
 have ax:Pn e z j=[]:=by grind[Pn]
 have hm:∀v:GValue,(Hk v).2=0->(Hk v).1=v:=λv h=>by
  grind[Hk]
 have key:Cn e z j=Hk (if(ua e j).Op=6 then⟨6,ea .i64 (Baa (ua e j).N 16),Jaa (ua e j).N 16⟩else⟨(ua e j).Op,0,(ua e j).N⟩):=by
  have hq:Cn e z j=(ab (ua e j) [] z).getD (⟨0,0,0⟩,0):=by
   rw[hp.q,uG (by unfold Bm;omega),har,PV,ax]
  rw[hq,Sl (by simp)]at h0⊢;split at h0
  .split at h0
   .have al:([]:List GValue).all Nn=true:=rfl;rename_i h1 h2;rw[if_pos h1,if_pos h2,if_pos al];by_cases h6:(ua e j).Op=6
    .rw[if_pos h6,show Xc (ua e j) [] z=Xc ⟨6,(ua e j).N⟩ [] z by rw[←h6],qF];rfl
    .rw[if_neg h6,show Xc (ua e j) [] z=some (Hk ⟨(ua e j).Op,0,(ua e j).N⟩)from mA (op:=(ua e j).Op) (N:=(ua e j).N) (by omega)];rfl
   simp_all
  simp_all
 grind
theorem kM{e:List GNode}(h:Wst e) (hf:∀i,i<e.length->Yn e i=true) {x y:GEnv}(hs:InSame e x.Inputs y.Inputs):∀i,i<e.length->NodeS e x y i:=by
 intro i
 induction i using aac with
 |_ i ih=>
  intro hi;have hga:=ot e i;have px:=HJ h (env:=x) (λj hj hl=>ZC (by grind[Pn,ot]) ((nz (hf j hj)).resolve_right λh=>hl (by omega))) i hi;have py:=HJ h (env:=y) (λj hj hl=>ZC (by grind[Pn,ot]) ((nz (hf j hj)).resolve_right λh=>hl (by omega))) i hi;refine⟨px,py,?_⟩;have hop:∀t,t<Yb e i->NodeS e x y (ig e i t):=λt ht=>ih _ (jg h hi ht).1 (by have:=(jg h hi ht).1;omega);rw[px.q,py.q];by_cases hl:(ua e i).Op=23\/(ua e i).Op=24
  .have hk:2=Yb e i:=by unfold Yb;rcases hl with h|h<;>rw[h]<;>decide
   left;rw[LH hl,LH hl];unfold Cx;rw[(hop 0 (by omega)).bool,(hop 1 (by omega)).bool,if_neg (c:=(ua e i).Op=26) (by omega),if_neg (c:=(ua e i).Op=26) (by omega)]
  .have ho:=(nz (hf i hi)).resolve_right hl;rw[uG ho,uG ho,zL hop]
   cases hff:ff (Py e y i) (Yb e i)with
   |some v=>simp
   |none=>
    dsimp only;have hz:∀t,t<Yb e i->(Cn e y (ig e i t)).2=0:=λt ht=>by
     simp_all[Py,Xb]
    have hzx:∀t,t<Yb e i->(Cn e x (ig e i t)).2=0:=λt ht=>(hop t ht).err.trans (hz t ht);have hpl:∀t,t<Yb e i->Nn (Cn e x (ig e i t)).1=Nn (Cn e y (ig e i t)).1:=λt ht=>by
     unfold Nn;rw[decide_eq_true ((hop t ht).px.ok (hzx t ht)),decide_eq_true ((hop t ht).py.ok (hz t ht))]
    have hv:∀t,t<Yb e i->(Cn e x (ig e i t)).1=(Cn e y (ig e i t)).1\/((ua e (ig e i t)).Op=7/\iH e (ua e (ig e i t)).N (Cn e x (ig e i t)).1 (Cn e y (ig e i t)).1):=λt ht=>by
     rcases(hop t ht).eq with h|⟨h1,-,-,h2⟩
     all_goals simp_all
    have hk:∀t,t<Yb e i->(Cn e x (ig e i t)).1.Kind=(Cn e y (ig e i t)).1.Kind/\(Cn e x (ig e i t)).1.Enum=(Cn e y (ig e i t)).1.Enum:=λt ht=>by
     rcases hv t ht with h|⟨-,h⟩
     .simp_all
     .rcases h.kind with h|h
      all_goals simp_all
    have ho':=ho;unfold Bm at ho';by_cases h6:1<=(ua e i).Op/\(ua e i).Op<=6
    .have har:Yb e i=0:=by
      unfold Yb;rcases(by omega:(ua e i).Op=1\/(ua e i).Op=2\/(ua e i).Op=3\/(ua e i).Op=4\/(ua e i).Op=5\/(ua e i).Op=6)with h|h|h|h|h|h<;>rw[h]<;>decide
     grind[Pn,ap0]
    by_cases h25:(ua e i).Op=25
    .have har:Yb e i=1:=by unfold Yb;rw[h25];decide
     left;rw[XZ har,XZ har,ap1 (y:=y) h25 (hpl 0 (by omega))];rcases hv 0 (by omega)with h|⟨-,h⟩
     .simp_all
     .rcases h.kind with h|h
      all_goals grind
    by_cases h7:(ua e i).Op=7
    .have har:Yb e i=0:=by unfold Yb;rw[h7];decide
     have ax:∀z,Pn e z i=[]:=λz=>by grind[Pn]
     rw[ax,ax,Sl (by simp),Sl (by simp)];have hfn:Ko (ua e i) x=Ko (ua e i) y:=by unfold Ko;rw[if_pos h7,if_pos h7,hs.len]
     rw[hfn];split
     .by_cases hin:Ko (ua e i) y=true
      .unfold Ko at hin;rw[if_pos h7,decide_eq_true_eq]at hin;have hx:idx x.Inputs (ua e i).N=some (x.Inputs[(ua e i).N.toNat]'(by have:=hs.len;omega)):=Di hin.1 (by have:=hs.len;omega);have hy:idx y.Inputs (ua e i).N=some (y.Inputs[(ua e i).N.toNat]'(by omega)):=Di hin.1 hin.2;have hvx:=hs.pl _ (iaa (l:=x.Inputs) (n:=(ua e i).N.toNat) (by grind));have hvy:=hs.pr _ (iaa (l:=y.Inputs) (n:=(ua e i).N.toNat) (by omega));have hsm:=hs.sm (ua e i).N.toNat _ _ ⟨i,hi,h7,by omega⟩ (caa (by grind)) (caa (by omega));have e7:ua e i=⟨7,(ua e i).N⟩:=by rw[←h7]
       have eN:(((ua e i).N.toNat:Nat):Int)=(ua e i).N:=by omega
       rw[eN]at hsm;have al:([]:List GValue).all Nn=true:=rfl;have hfy:Ko (ua e i) y=true:=by grind[Ko]
       rw[if_pos hfy,if_pos hfy,if_pos al,if_pos al];have cx:=Xy hx (decide_eq_true hvx);have cy:=Xy hy (decide_eq_true hvy)
       grind
      simp_all
     simp
    .have har:Yb e i=2:=by
      unfold Yb;rcases(by omega:(ua e i).Op=19\/(ua e i).Op=20\/(ua e i).Op=21\/(ua e i).Op=22)with h|h|h|h<;>rw[h]<;>decide
     left;have hcb:Rx (ua e i).Op=true:=by grind[Rx]
     have hfl:=hf i hi;unfold Yn at hfl;rw[if_pos hcb]at hfl;have k0:=hk 0 (by omega);have k1:=hk 1 (by omega);rw[YZ har,YZ har,ap2 (y:=y) (by omega) (hpl 0 (by omega)) (hpl 1 (by omega)) k0 k1 λhsm=>?_]
     cases hsi:qx e i with
     |none=>simp_all
     |some v=>
      have hsi2:=hsi;unfold qx at hsi;rw[if_pos har]at hsi;split at hsi
      .rename_i hA;obtain rfl:=Faa hsi;have h1:(Cn e x (ig e i 1)).1=(Cn e y (ig e i 1)).1:=(hv 1 (by omega)).resolve_right λh=>by grind[Dz]
       have hlv:=JK (hop 1 (by omega)).py hA.2 (hz 1 (by omega));rw[h1]at hsm⊢;rcases hv 0 (by omega)with h0|⟨-,h0|⟨a1,a2,a3,a4,a5⟩⟩
       .rw[h0]
       .rw[h0]
       .rcases hlv with⟨-,b⟩|⟨b1,b2⟩
        .exact absurd hsm.1 (by omega)
        grind[uH]
      .split at hsi
       .rename_i hA;obtain rfl:=Faa hsi;have h1:(Cn e x (ig e i 0)).1=(Cn e y (ig e i 0)).1:=(hv 0 (by omega)).resolve_right λh=>by simp_all
        have hlv:=JK (hop 0 (by omega)).py hA.2 (hz 0 (by omega));rw[h1]at hsm⊢;rcases hv 1 (by omega)with h0|⟨-,h0|⟨a1,a2,a3,a4,a5⟩⟩
        .rw[h0]
        .rw[h0]
        .rcases hlv with⟨-,b⟩|⟨b1,b2⟩
         .exact absurd hsm.1 (by omega)
         .have:=a5 i hi hcb _ hsi2 b1;rw[b2];exact(uH this _).2
       simp_all
noncomputable def Mx(t0 t1:List Int) (i:Nat):Option Int:=
 match t0[i]?,t1[i]? with
 |some p,some q=>if p < -1\/(i:Int)<=p then some 9 else if q<0\/9<q then some 3 else none
 |_,_=>none
noncomputable def Bw(t0 t1:List Int):Int:=
 if¬(t0.length:Int)=(t1.length:Int)then 2 else if 8<(t0.length:Int)then 4 else
 match ff (Mx t0 t1) t0.length with|some v=>v|none=>0
theorem L8{a b:Prop} [Decidable a] [Decidable b] {α:Type}{k:Bool->Option α}:(baa (α:=Bool) (if¬a then some (decide b)else some true) k)=k (decide (a\/b)):=by
 grind
theorem ox(t0 t1:List Int):ki t0 t1=some (Bw t0 t1):=by
 unfold ki Bw;by_cases hl:(t0.length:Int)=(t1.length:Int)
 case neg=>simp_all
 rw[if_neg (vaa.2 hl),if_neg (vaa.2 hl)];by_cases h8:8<(t0.length:Int)
 .simp_all
 rw[if_neg h8,if_neg h8];have e1:fa (tf t0 t1) 0=some (Vb () (ff (Mx t0 t1) t0.length)):=
  Kb (λi=>(i:Int)) _ t0.length () (λi hi _=>by
   unfold tf Mx;rw[if_pos (by omega),Ba hi,caa hi,caa (l:=t1) (by omega)];dsimp only;rw[aaa,L8,Ba (l:=t1) (by omega),aaa,L8,xa (by omega)]
   grind[lC]) (λ_=>by grind[tf])
 rw[e1];cases ff (Mx t0 t1) t0.length<;>rfl
theorem IA(t0 t1:List Int):El t0 t1=some (Bw t0 t1):=by
 unfold El Bw;by_cases hl:(t0.length:Int)=(t1.length:Int)
 case neg=>simp_all
 rw[if_neg (vaa.2 hl),if_neg (vaa.2 hl)];by_cases h8:8<(t0.length:Int)
 .simp_all
 rw[if_neg h8,if_neg h8];have e2:fa (Zh t0 t1) 0=some (Vb () (ff (Mx t0 t1) t0.length)):=
  Kb (λi=>(i:Int)) _ t0.length () (λi hi _=>by
   unfold Zh Mx;rw[if_pos (by omega),Ba hi,caa hi,caa (l:=t1) (by omega)];dsimp only;rw[aaa,L8,Ba (l:=t1) (by omega),aaa,L8,xa (by omega)]
   grind[lC]) (λ_=>by grind[Zh])
 rw[e2];cases ff (Mx t0 t1) t0.length<;>rfl
structure TreeOk (t0 t1:List Int):Prop where
 len:t0.length=t1.length
 le:t0.length<=8
 par:∀i (h:i<t0.length),-1<=t0[i]/\t0[i]<(i:Int)
theorem Qw{t0 t1:List Int}(h:Bw t0 t1=0):TreeOk t0 t1:=by
 unfold Bw at h;by_cases hl:(t0.length:Int)=(t1.length:Int)
 case neg=>omega
 rw[if_neg (vaa.2 hl)]at h;by_cases h8:8<(t0.length:Int)
 .omega
 rw[if_neg h8]at h;refine⟨by omega,by omega,λi hi=>?_⟩;have hn:ff (Mx t0 t1) t0.length=none:=by
  grind[Mx,Ta]
 grind[Mx,Xb]
def OL(t0:List Int) (at_:Int):Nat->List Int
 |0=>[]
 |n+1=>if t0[n]?=some at_ then OL t0 at_ n++[(n:Int)]else OL t0 at_ n
def nq(t0:List Int) (at_:Int):List Int:=OL t0 at_ t0.length
theorem Ew(t0:List Int) (a:Int):∀n,(OL t0 a n).length<=n
 |0=>by simp[OL]
 |n+1=>by
  have:=Ew t0 a n
  grind[OL]
theorem Uy{t0:List Int}{a x:Int}:∀{n:Nat},x∈OL t0 a n->∃k:Nat,x=(k:Int)/\k<n/\t0[k]?=some a
 |0,h=>by grind[OL]
 |n+1,h=>by
  unfold OL at h;split at h
  .rename_i hn;rcases bab.1 h with h|h
   .obtain⟨k,a1,a2,a3⟩:=Uy h;grind
   grind
  .obtain⟨k,a1,a2,a3⟩:=Uy h;grind
theorem Jq{t0:List Int}(hl:t0.length<=1048576) (a:Int):ji t0 a=some (nq t0 a):=by
 have step:fa (sf t0 a) (([]:List Int),0)=some (.inl (nq t0 a)):=by
  refine Kc (λi=>(OL t0 a i,(i:Int))) t0.length _ (λi hi=>?_) ?_ rfl
  .have h1:=Ew t0 a i;unfold sf;dsimp only;rw[if_pos (by omega),Ba hi,aaa,xa (by omega)];simp only[OL,caa hi,Maa];by_cases hc:t0[i]=a
   .rw[if_pos hc,if_pos hc,Xe (by grind)];rfl
   simp_all
  grind[sf,nq]
 grind[ji]
theorem HA{t0:List Int}(hl:t0.length<=1048576) (a:Int):Dl t0 a=some (nq t0 a):=by
 have step:fa (Yh t0 a) (([]:List Int),0)=some (.inl (nq t0 a)):=by
  refine Kc (λi=>(OL t0 a i,(i:Int))) t0.length _ (λi hi=>?_) ?_ rfl
  .have h1:=Ew t0 a i;unfold Yh;dsimp only;rw[if_pos (by omega),Ba hi,aaa,xa (by omega)];simp only[OL,caa hi,Maa];by_cases hc:t0[i]=a
   .rw[if_pos hc,if_pos hc,Xe (by grind)];rfl
   simp_all
  grind[Yh,nq]
 grind[Dl]
def pri(t1:List Int) (x:Int):Int:=(t1[x.toNat]?).getD 0
def Iv(t1:List Int) (out:Int->Int) (acc:List Int) (x:Int):List Int:=
 if out x = -1 then acc else
 match acc with
 |[]=>[x]
 |y::l=>if pri t1 y<pri t1 x then [x]else if pri t1 x=pri t1 y then y::l++[x]else y::l
def Jj(t1:List Int) (out:Int->Int) (l:List Int):List Int:=l.foldl (Iv t1 out) []
theorem xn{t1:List Int}{out:Int->Int}{l:List Int}:∀x∈Jj t1 out l,x∈l:=by
 have:∀(l acc:List Int),∀x∈l.foldl (Iv t1 out) acc,x∈acc\/x∈l:=by
  intro l
  induction l with
  |nil=>simp
  |cons y l ih=>
   intro acc x hx;rcases ih _ x hx with h|h
   .unfold Iv at h
    grind
   simp_all
 intro x hx;rcases this l [] x hx with h|h
 all_goals simp_all
theorem BL(t1:List Int) (out:Int->Int) (l:List Int):(Jj t1 out l).length<=l.length:=by
 have:∀(l acc:List Int),(l.foldl (Iv t1 out) acc).length<=acc.length+l.length:=by
  intro l
  induction l with
  |nil=>simp
  |cons y l ih=>
   intro acc;refine Nat.le_trans (ih _) ?_;have:(Iv t1 out acc y).length<=acc.length+1:=by
    unfold Iv
    grind
   grind
 have h:=this l [];rw[Waa,qab]at h;exact h
theorem UI{t1:List Int}{out:Int->Int}{l:List Int}{x:Int}:Jj t1 out (l++[x])=Iv t1 out (Jj t1 out l) x:=by simp[Jj]
theorem qH{t1:List Int}{o o':Int->Int}{l:List Int}(h:∀x∈l,o x=o' x):Jj t1 o l=Jj t1 o' l:=by
 have:∀(l acc:List Int),(∀x∈l,o x=o' x)->l.foldl (Iv t1 o) acc=l.foldl (Iv t1 o') acc:=by
  intro l
  induction l with
  |nil=>simp
  |cons y l ih=>
   simp_all[Iv]
 exact this l [] h
theorem jA{t1:List Int}{out:Int->Int}{l:List Int}(hl:l.length<=100) (hm:∀x∈l,0<=x/\x<(t1.length:Int)) {step:List Int×Int->Option (Ex (List Int×Int) (List Int) Unit)}{g:Int->Option Int}(hg:∀x∈l,g x=some (out x)) {mt:List Int->Option (List Int)}(hmt:∀q,mt q=some [])
 (hs:∀a b,step (a,b)=if b<(l.length:Int)then
  baa (α:=(List Int)) (
   (idx l b).bind λx5=>(g x5).bind λx6=>if x6=(-1)then some a else
   baa (α:=(List Int)) (baa (α:=Bool) (if 0<(a.length:Int)then(idx t1 x5).bind λx9=>(idx a 0).bind λx10=>(idx t1 x10).bind λx11=>some (decide (x11<x9))else some false) λj12=>if j12=true then mt a else some a) λj15=>
   baa (α:=Bool) (if¬(j15.length:Int)=0 then(idx t1 x5).bind λx17=>(idx j15 0).bind λx18=>(idx t1 x18).bind λx19=>some (x17==x19)else some true) λj20=>
   if j20=true then(app 8 j15 ([x5])).bind λx22=>some x22 else some j15) λj23=>some (Ex.go (j23,(ea .i64 (b+1))))
  else some (Ex.brk a)):fa step (([]:List Int),0)=some (.inl (Jj t1 out l)):=by
 refine Kc (λi=>(Jj t1 out (l.take i),(i:Int))) l.length _ (λi hi=>?_) ?_ rfl
 .have h1:=BL t1 out (l.take i);have h2:(l.take i).length<=l.length:=by grind
  have hsub:∀y∈Jj t1 out (l.take i),0<=y/\y<(t1.length:Int):=λy hy=>hm y (List.mem_of_mem_take (xn y hy));rw[hs,if_pos (by omega),Ba hi,aaa,hg _ (iaa hi),aaa,xa (by omega),Laa,caa hi];have hx:=hm _ (iaa hi);simp only[vab,UI];generalize l[i]=x at hx⊢;have hpx:idx t1 x=some (pri t1 x):=by grind[pri,Di]
  generalize Jj t1 out (l.take i)=acc at h1 hsub⊢;unfold Iv;by_cases ho:out x = -1
  .simp_all
  rw[if_neg ho,if_neg ho];rcases acc with _|⟨y,r⟩
  .simp_all[Xe]
  .have hy:=hsub y (by simp);have hpy:idx t1 y=some (pri t1 y):=by grind[pri,Di]
   have i0:∀(q:List Int),idx (y::q) 0=some y:=λq=>by simp[idx]
   dsimp only;rw[if_pos (by simp),hpx,i0,aaa,aaa,hpy,aaa,aaa];by_cases hlt:pri t1 y<pri t1 x
   .rw[if_pos (by simp_all),hmt,aaa,if_neg (by simp),aaa,if_pos rfl,Xe (by simp),if_pos hlt];rfl
   .rw[if_neg (by simp_all),aaa,if_pos (by grind),aaa,i0,aaa,hpy,aaa,aaa,if_neg hlt];by_cases he:pri t1 x=pri t1 y
    .rw[if_pos (by simp_all),if_pos he,Xe (by grind)];rfl
    simp_all
 simp_all
def rC(t1:List Int) (out:Int->Int) (l:List Int):Int:=
 match Jj t1 out l with
 |[]=>-1
 |[x]=>out x
 |_=>-2
theorem EM{t1:List Int}{o o':Int->Int}{l:List Int}(h:∀x∈l,o x=o' x):rC t1 o l=rC t1 o' l:=by
 grind[rC,qH,xn]
def oc(t0 t1:List Int) (t2:List Bool):Nat->Int->Int
 |0,_=>-1
 |k+1,i=>if rC t1 (oc t0 t1 t2 k) (nq t0 i) = -1/\(t2[i.toNat]?).getD false=true then i else rC t1 (oc t0 t1 t2 k) (nq t0 i)
theorem Hs{t0 t1:List Int}(h:TreeOk t0 t1) {i x:Int}(hx:x∈nq t0 i):i<x/\0<=x/\x<(t0.length:Int):=by
 obtain⟨k,rfl,hk,hp⟩:=Uy hx;have:=h.par k hk
 simp_all
theorem CM{t0 t1:List Int}{t2:List Bool}(h:TreeOk t0 t1):∀(d:Nat) (i:Int),0<=i->(t0.length:Int)-i<=d->∀k k':Nat,(t0.length:Int)-i<=k->(t0.length:Int)-i<=k'->i<t0.length->oc t0 t1 t2 k i=oc t0 t1 t2 k' i:=by
 intro d
 induction d with
 |zero=>omega
 |succ d ih=>
  intro i h0 hd k k' hk hk' hi;obtain⟨k,rfl⟩:∃m,k=m+1:=⟨k-1,by omega⟩;obtain⟨k',rfl⟩:∃m,k'=m+1:=⟨k'-1,by omega⟩;have:rC t1 (oc t0 t1 t2 k) (nq t0 i)=rC t1 (oc t0 t1 t2 k') (nq t0 i):=EM λx hx=>by
   have:=Hs h hx
   grind
  grind[oc]
def O(t0 t1:List Int) (t2:List Bool) (i:Int):Int:=oc t0 t1 t2 t0.length i
theorem vW{t0 t1:List Int}{t2:List Bool}(h:TreeOk t0 t1) {i:Int}(h0:0<=i) (h1:i<t0.length):O t0 t1 t2 i=if rC t1 (O t0 t1 t2) (nq t0 i) = -1/\(t2[i.toNat]?).getD false=true then i else rC t1 (O t0 t1 t2) (nq t0 i):=by
 unfold O;rw[CM h t0.length i h0 (by omega) t0.length (t0.length+1) (by omega) (by omega) h1];rfl
noncomputable def Gt(t0 t1:List Int) (t2:List Bool):Int:=if Bw t0 t1=0/\t2.length=t0.length then rC t1 (O t0 t1 t2) (nq t0 (-1))else -1
theorem Gz{t0 t1 out:List Int}(h:TreeOk t0 t1) {f:Int->Int}{i:Int}(ho:∀x∈nq t0 i,idx out x=some (f x)):Fb ⟨t0,t1,out⟩ i=some (rC t1 f (nq t0 i)):=by
 have hle:=h.le;have hlen:=h.len;have hcl:=Ew t0 i t0.length;unfold Fb Ic;dsimp only;rw[Jq (by omega) i,aaa];have hb:=jA (t1:=t1) (out:=f) (l:=nq t0 i) (by grind[nq]) (λx hx=>by have:=Hs h hx;omega) (step:=nd ⟨t0,t1,out⟩ (nq t0 i)) (g:=λx=>idx out x) ho (mt:=λq=>(Zq q 0).bind λx14=>some x14) (λq=>by rw[show(0:Int)=((0:Nat):Int)from rfl,bt (by omega)];rfl) (λa b=>by grind[nd]);rw[hb];simp only[aaa];unfold rC;have hs:=xn (t1:=t1) (out:=f) (l:=nq t0 i);generalize Jj t1 f (nq t0 i)=r at hs⊢;rcases r with _|⟨x,_|⟨y,q⟩⟩
 all_goals grind[idx]
theorem my{t0 t1:List Int}{t2:List Bool}(h:TreeOk t0 t1) (h2:t2.length=t0.length):Hf t0 t1 t2=some ((uaa t0.length).map λ(k:Nat)=>O t0 t1 t2 (k:Int)):=by
 have hle:=h.le;unfold Hf;rw[UB (by omega) (by omega),aaa,wid (by omega) (by omega)];have hl:fa (uf t0 t1 t2) (gaa t0.length 0,(t0.length:Int)-1)=some (.inl ((uaa t0.length).map λ(k:Nat)=>O t0 t1 t2 (k:Int))):=by
  refine Kc (λt=>((uaa t0.length).map (λ(k:Nat)=>if k<t0.length-t then 0 else O t0 t1 t2 (k:Int)),(t0.length:Int)-1-t)) t0.length _ (λt ht=>?_) ?_ ?_
  .obtain⟨j,hj⟩:∃j,t0.length=t+j+1:=⟨t0.length-t-1,by omega⟩;have ej:(t0.length:Int)-1-t=(j:Int):=by omega
   have ej2:t0.length-t=j+1:=by omega
   have ej3:t0.length-(t+1)=j:=by omega
   skip
   rw[ej,ej2,ej3];unfold uf;dsimp only;rw[if_pos (by omega)];have hof:Fb ⟨t0,t1,(uaa t0.length).map (λ(k:Nat)=>if k<j+1 then 0 else O t0 t1 t2 (k:Int))⟩ (j:Int)=some (rC t1 (O t0 t1 t2) (nq t0 (j:Int))):=by
    refine Gz h λx hx=>?_;have:=Hs h hx;obtain⟨k,rfl⟩:=dab this.2.1;rw[Ba (by grind)]
    grind
   rw[hof,aaa,Ba (by grind),aaa,dw (by grind),aaa];rw[Ba (by grind)];simp only[oac,aaa];have hO:=vW (t2:=t2) h (i:=(j:Int)) (by omega) (by omega);rw[rab,caa (by omega)]at hO;simp only[Option.getD_some]at hO;have hset:∀v,v=O t0 t1 t2 (j:Int)->((uaa t0.length).map (λ(k:Nat)=>if k<j+1 then 0 else O t0 t1 t2 (k:Int))).set j v=(uaa t0.length).map (λ(k:Nat)=>if k<j then 0 else O t0 t1 t2 (k:Int)):=by
    intro v hv;apply rac
    all_goals grind
   have hw:ea .i64 ((j:Int)-1)=(t0.length:Int)-1-((t+1:Nat):Int):=by grind[wid]
   by_cases hm:rC t1 (O t0 t1 t2) (nq t0 (j:Int)) = -1
   .rw[if_pos hm,Ba (l:=t2) (by omega),aaa,aaa];by_cases ha:t2[j]'(by omega)=true
    .rw[if_pos ha,dw (by grind),aaa,aaa,List.set_set,hset _ (by simp_all),hw]
    simp_all
   simp_all
  .grind[uf]
  ·((try dsimp only))
   rw[Nat.sub_zero];congr 1
   .apply rac
    all_goals simp_all
   .simp
 simp_all
theorem Gf(t0 t1:List Int) (t2:List Bool):vh t0 t1 t2=some (Gt t0 t1 t2):=by
 unfold vh Gt;rw[ox t0 t1,aaa];by_cases hv:Bw t0 t1=0
 case neg=>simp_all
 rw[if_pos hv,aaa];by_cases h2:t2.length=t0.length
 case neg=>grind
 have h:=Qw hv;rw[if_neg (by simp_all),if_pos ⟨hv,h2⟩,my h h2,aaa,Gz h (f:=O t0 t1 t2) λx hx=>by
  have:=Hs h hx;obtain⟨k,rfl⟩:=dab this.2.1
  grind[Ba]]
 rfl
theorem dW{t0 t1:List Int}{t2:List Bool}(h:TreeOk t0 t1) {n:Nat}{i:Int}(ho:∀x∈nq t0 i,(ma n).2.2 t0 t1 t2 x=some (O t0 t1 t2 x)):(ma (n+1)).2.1 t0 t1 t2 i=some (Jj t1 (O t0 t1 t2) (nq t0 i)):=by
 have hle:=h.le;have hlen:=h.len;have hcl:=Ew t0 i t0.length;show vo (ma n).1 (ma n).2.1 (ma n).2.2 _ _ _ _=_;unfold vo;rw[HA (by omega) i,aaa];have hb:=jA (t1:=t1) (out:=O t0 t1 t2) (l:=nq t0 i) (by grind[nq]) (λx hx=>by have:=Hs h hx;omega) (step:=Ip t0 t1 t2 (nq t0 i) (ma n).2.2) (g:=λx=>(ma n).2.2 t0 t1 t2 x) ho (mt:=λq=>some []) (λq=>rfl) (λa b=>by grind[Ip])
 simp_all
theorem cW{t0 t1:List Int}{t2:List Bool}(h:TreeOk t0 t1) {n:Nat}{i:Int}(ho:∀x∈nq t0 i,∀m,n<=m->(ma m).2.2 t0 t1 t2 x=some (O t0 t1 t2 x)):(ma (n+2)).1 t0 t1 t2 i=some (rC t1 (O t0 t1 t2) (nq t0 i)):=by
 show cj (ma (n+1)).1 (ma (n+1)).2.1 (ma (n+1)).2.2 _ _ _ _=_;unfold cj;rw[dW h λx hx=>ho x hx n (oaa _),aaa];unfold rC;have hs:=xn (t1:=t1) (out:=O t0 t1 t2) (l:=nq t0 i);generalize Jj t1 (O t0 t1 t2) (nq t0 i)=r at hs⊢;rcases r with _|⟨x,_|⟨y,q⟩⟩
 all_goals grind[idx]
theorem tQ{t0 t1:List Int}{t2:List Bool}(h:TreeOk t0 t1) (h2:t2.length=t0.length):∀(d:Nat) (i:Int),0<=i->i<t0.length->(t0.length:Int)-i<=d->∀n,3*d<=n->(ma n).2.2 t0 t1 t2 i=some (O t0 t1 t2 i):=by
 intro d
 induction d with
 |zero=>omega
 |succ d ih=>
  intro i h0 h1 hd n hn;obtain⟨n,rfl⟩:∃m,n=m+3:=⟨n-3,by omega⟩;show Wj (ma (n+2)).1 (ma (n+2)).2.1 (ma (n+2)).2.2 _ _ _ _=_;unfold Wj;rw[cW h λx hx m hm=>by
   have:=Hs h hx
   grind]
  rw[aaa,vW h h0 h1];obtain⟨j,rfl⟩:=dab h0;rw[Ba (by omega),rab,caa (by omega)]
  grind
theorem qw(t0 t1:List Int) (t2:List Bool):fm t0 t1 t2=some (Gt t0 t1 t2):=by
 have hf:1000000<=Gc:=by grind[Gc]
 unfold fm Gt;rw[IA t0 t1,aaa];by_cases hv:Bw t0 t1=0
 case neg=>simp_all
 rw[if_pos hv,aaa];by_cases h2:t2.length=t0.length
 case neg=>grind
 have h:=Qw hv;rw[if_neg (by simp_all),if_pos ⟨hv,h2⟩];unfold wo;obtain⟨n,hn⟩:∃n,Gc=n+2:=⟨Gc-2,by omega⟩;rw[hn,cW h λx hx m hm=>by
  have:=Hs h hx;have:=h.le;exact tQ h h2 t0.length x (by omega) (by omega) (by omega) m (by omega)]
 rfl
section
variable {rules:List GRule} {q:GRule->Bool}
def GB(rules:List GRule) (q:GRule->Bool) (j:Nat):Int:=
 match rules[j]? with
 |none=>-1
 |some r=>if 0<=r.Parent/\r.Parent<(j:Int)then((Kd rules q j).2.2[r.Parent.toNat]?).getD 0 else -1
def nv(rules:List GRule) (q:GRule->Bool) (j:Nat):Int:=
 match rules[j]? with
 |none=>0
 |some r=>if q r=true then((Kd rules q j).1.length:Int)else GB rules q j
theorem su{i:Nat}(hi:i<rules.length):Kd rules q (i+1)=if q rules[i]=true then((Kd rules q i).1++[(i:Int)],(Kd rules q i).2.1++[GB rules q i],((Kd rules q i).2.2.set i (GB rules q i)).set i ((Kd rules q i).1.length:Int))else((Kd rules q i).1,(Kd rules q i).2.1,(Kd rules q i).2.2.set i (GB rules q i)):=by
 grind[Kd,GB]
theorem tB:∀i,i<=rules.length->∀j,j<i->(Kd rules q i).2.2[j]?=some (nv rules q j)
 |0,_,j,h=>by omega
 |i+1,hi,j,hj=>by
  have hl:=(Il (rules:=rules) (q:=q) i).1;have ih:=tB i (by omega)
  grind[nv,su]
theorem EW{j:Nat}(hj:j<rules.length):GB rules q j=if 0<=rules[j].Parent/\rules[j].Parent<(j:Int)then nv rules q rules[j].Parent.toNat else -1:=by
 grind[GB,tB]
theorem cL:∀i,i<=rules.length->∀j (hj:j<i) (h:j<rules.length),q rules[j]=true->(Kd rules q i).1[(Kd rules q j).1.length]?=some (j:Int)
 |0,_,j,hj,_,_=>by omega
 |i+1,hi,j,hj,h,hq=>by
  rw[su (by omega)];rcases Nat.lt_or_ge j i with hlt|hge
  .have ih:=cL i (by omega) j hlt h hq
   grind
  grind
theorem Pz:∀i,i<=rules.length->∀x∈(Kd rules q i).1,∃(j:Nat) (h:j<rules.length),x=(j:Int)/\j<i/\q rules[j]=true
 |0,_,x,hx=>by grind[Kd]
 |i+1,hi,x,hx=>by
  rw[su (by omega)]at hx;split at hx
  .rename_i hq;rcases bab.1 hx with h|h
   .obtain⟨j,a,b,c,d⟩:=Pz i (by omega) x h;grind
   grind
  .obtain⟨j,a,b,c,d⟩:=Pz i (by omega) x hx;grind
theorem ZK:∀i,i<=rules.length->(Kd rules q i).1.Pairwise (·<·)
 |0,_=>by simp[Kd]
 |i+1,hi=>by
  have ih:=ZK i (by omega);rw[su (by omega)];split
  .rw[tac];refine⟨ih,by simp,λa ha b hb=>?_⟩;obtain⟨j,_,rfl,c,_⟩:=Pz i (by omega) a ha
   simp_all
  omega
theorem aL:∀i,i<=rules.length->(Kd rules q i).2.1=(Kd rules q i).1.map λx=>GB rules q x.toNat
 |0,_=>by simp[Kd]
 |i+1,hi=>by
  have ih:=aL i (by omega)
  grind[su]
end
theorem ZS{l:List Int}(hl:l.length<=1048576) (x:Int):(∀k:Nat,l[k]?=some x->l.Pairwise (·<·)->Gn l x=some (k:Int))/\(x∉l->Gn l x=some (-1)):=by
 have hl1:fa (Fl l x) 0=some (Vb () (ff (λi=>if l[i]?=some x then some (i:Int)else none) l.length)):=
  Kb (λi=>(i:Int)) _ l.length () (λi hi _=>by
   unfold Fl;rw[if_pos (by omega),Ba hi,caa hi,aaa,xa (by omega)]
   grind[lC]) (λ_=>by grind[Fl])
 unfold Gn;rw[hl1];constructor
 .intro k hk hp;have hkl:=(yaa.1 hk).1;have:ff (λi=>if l[i]?=some x then some (i:Int)else none) l.length=some (k:Int):=by
   refine Ta.2 ⟨k,hkl,by simp_all,λj hj=>?_⟩;rw[if_neg]
   grind[List.pairwise_iff_getElem]
  rw[this];rfl
 .intro hx;have:ff (λi=>if l[i]?=some x then some (i:Int)else none) l.length=none:=by
   refine Xb.2 λi hi=>?_
   grind
  rw[this];rfl
theorem oI{s:GScope}(hs:s.Rules.length<=1048576) {q:GRule->Bool}:∀(j:Nat) (hj:j<s.Rules.length),∃y,fa (sh s (Kd s.Rules q s.Rules.length).1) ((j:Int),s.Rules[j].Parent)=some y/\(match y with|.inr v=>v|.inl _=>-1)=GB s.Rules q j:=by
 intro j
 induction j using aac with
 |_ j ih=>
  intro hj;have hrl:=(Il (rules:=s.Rules) (q:=q) s.Rules.length).2.1;rw[EW hj];generalize hP:s.Rules[j].Parent=P;by_cases hc:0<=P/\P<(j:Int)
  .rw[if_pos hc];obtain⟨p,rfl⟩:=dab hc.1;have hp:p<j:=by omega
   have hin:=ZS (l:=(Kd s.Rules q s.Rules.length).1) (by omega) (p:Int);rw[rab];unfold nv;rw[caa (show p<s.Rules.length by omega)];dsimp only;by_cases hq:q (s.Rules[p]'(by omega))=true
   .rw[if_pos hq];have hpos:=cL s.Rules.length (oaa _) p (by omega) (by omega) hq;have hi:=hin.1 _ hpos (ZK s.Rules.length (oaa _));refine⟨.inr ((Kd s.Rules q p).1.length:Int),cr ?_,rfl⟩
    simp_all[sh]
   .rw[if_neg hq];have hi:=hin.2 (λhm=>by
     obtain⟨k,hk,h1,h2,h3⟩:=Pz s.Rules.length (oaa _) _ hm
     grind)
    obtain⟨y,y1,y2⟩:=ih p hp (by omega);refine⟨y,?_,y2⟩;rw[Yd (s':=((p:Int),(s.Rules[p]'(by omega)).Parent))]
    .omega
    .unfold sh;dsimp only;rw[if_pos hc.1,aaa,if_pos (by simp_all),hi,aaa,if_neg (by omega),Ba (by omega),aaa]
  .rw[if_neg hc];refine⟨.inl (),Nc ?_,rfl⟩
   grind[sh]
theorem LD{s:GScope}(hs:s.Rules.length<=1048576) {q:GRule->Bool}{j:Nat}(hj:j<s.Rules.length):Ao s (Kd s.Rules q s.Rules.length).1 (j:Int)=some (GB s.Rules q j):=by
 obtain⟨y,y1,y2⟩:=oI hs (q:=q) j hj
 grind[Ao,Ba]
def By(s:GScope) (x:Int):Int:=((s.Rules[x.toNat]?).map (·.Priority)).getD 0
def db(s:GScope) (d date:Int):List Int×List Int×List Int:=
 ((Kd s.Rules (Bv d date) s.Rules.length).1,(Kd s.Rules (Bv d date) s.Rules.length).2.1,(Kd s.Rules (Bv d date) s.Rules.length).1.map (By s))
theorem kn{s:GScope}(hs:s.Rules.length<=1048576) (d date:Int):ug s d date=some (db s d date):=by
 unfold ug db;rw[No hs (q:=Bv d date) (λr=>by
  grind[je,Bv,Mp]),aaa]
 have hl:=(Il (rules:=s.Rules) (q:=Bv d date) s.Rules.length).2.1;have hm:=Fo (rules:=s.Rules) (q:=Bv d date) s.Rules.length;generalize (Kd s.Rules (Bv d date) s.Rules.length).2.1=pp;generalize (Kd s.Rules (Bv d date) s.Rules.length).1=L at hl hm;have h1:fa (Tf s (L,pp)) (([]:List Int),0)=some (.inl (L.map (By s))):=by
  refine Kc (λi=>((L.take i).map (By s),(i:Int))) L.length _ (λi hi=>?_) ?_ rfl
  .have hx:=hm _ (iaa hi);have h2:(L.take i).length<=L.length:=by grind
   unfold Tf;dsimp only;rw[if_pos (by omega),Ba hi,aaa,Di hx.1 hx.2.1,aaa,Xe (by grind),aaa,xa (by omega),Laa,caa hi]
   grind[By]
  simp_all[Tf]
 simp_all
theorem KD{s:GScope}(hs:s.Rules.length<=1048576) (d date:Int):xo s d date=some (db s d date):=by
 unfold xo db;rw[tv hs,aaa];have hl:=(Il (rules:=s.Rules) (q:=Bv d date) s.Rules.length).2.1;have hm:=Pz (rules:=s.Rules) (q:=Bv d date) s.Rules.length (oaa _);have hp:=λ{j:Nat} (hj:j<s.Rules.length)=>LD hs (q:=Bv d date) hj;rw[aL s.Rules.length (oaa _)];generalize (Kd s.Rules (Bv d date) s.Rules.length).1=L at hl hm hp;have h1:fa (Xj s L) (([]:List Int),([]:List Int),0)=some (.inl (L.map (λx=>GB s.Rules (Bv d date) x.toNat),L.map (By s))):=by
  refine Kc (λi=>((L.take i).map (λx=>GB s.Rules (Bv d date) x.toNat),(L.take i).map (By s),(i:Int))) L.length _ (λi hi=>?_) ?_ rfl
  .obtain⟨j,hj,e,-⟩:=hm _ (iaa hi);have h2:(L.take i).length<=L.length:=by grind
   unfold Xj;dsimp only;rw[if_pos (by omega),Ba hi,aaa,e,hp hj,aaa,Xe (by grind),aaa,Ba hj,aaa,Xe (by grind),aaa,xa (by omega),Laa,caa hi]
   simp_all[By]
  simp_all[Xj]
 simp_all
noncomputable def TE(l:GLaw) (gs:List (List GNode)) (f:GField) (i:Nat):List Int:=if Ru gs i=true then JG f.Type_ l.Enums (oe (Ue gs i gs.length))else [0]
noncomputable def ui(l:GLaw) (gs:List (List GNode)) (s:GScope):Nat->List (List Int)
 |0=>[]
 |k+1=>ui l gs s k++(match s.Inputs[k]? with|some f=>[TE l gs f k]|none=>[])
noncomputable def bl(l:GLaw) (sc def_ date:Int):List (List Int)×Int:=
 if¬(Ol l).Code=0 then([],1)
 else if sc<0\/(l.Scopes.length:Int)<=sc then([],6)
 else match l.Scopes[sc.toNat]? with
  |none=>([],6)
  |some s=>
   if def_<0\/(s.Defs.length:Int)<=def_ then([],6)
   else if date<0\/109572<date then([],3)
   else if((Yo s def_ date).any λg=>!Yk g (js l s))=true then([],17)
   else if 4096<Mv (ui l (Yo s def_ date) s s.Inputs.length)then([],4)
   else(ui l (Yo s def_ date) s s.Inputs.length,0)
theorem Zk{e:List GNode}{s:GSignature}(h:Yk e s=true):Wst e:=by
 unfold Yk at h;simp only[laa,decide_eq_true_eq]at h
 grind[pE]
theorem tr{gs:List (List GNode)}(hg:gs.length<=1048576) (hw:∀g∈gs,Wst g) (i:Int):(oe (Ue gs i gs.length)).length<=1099511627:=by
 grind[Xl,Lp]
theorem wQ{l:GLaw}(hm:∀x∈l.Enums,x.Members.length<=16) {gs:List (List GNode)}(hg:gs.length<=1048576) (hw:∀g∈gs,Wst g) (f:GField) (i:Nat):(TE l gs f i).length<=1099511628:=by
 unfold TE;split
 .have h1:=tr hg hw (i:Int);unfold JG;split
  .simp
  .rename_i hlt;split
   .rename_i hk;obtain⟨b1,b2,b3,b4,b5⟩:=kA (t:=f.Type_) (e:=l.Enums) λx hx=>by grind
    grind[wu]
   grind[Xl]
 simp
theorem mn{l:GLaw}(hm:∀x∈l.Enums,x.Members.length<=16) {gs:List (List GNode)}(hg:gs.length<=1048576) (hw:∀g∈gs,Wst g) (s:GScope):∀k,(ui l gs s k).length<=k/\∀r∈ui l gs s k,r.length<=1099511628
 |0=>by simp[ui]
 |k+1=>by
  obtain⟨h1,h2⟩:=mn hm hg hw s k
  grind[ui,wQ]
theorem GV{sc:Int}{n:Nat}{d:Int}{l:GLaw}{o:Option Bool}(ho:o=(if¬sc<0 then if¬(l.Scopes.length:Int)<=sc then if¬d<0 then(idx l.Scopes sc).bind λx=>some (decide ((x.Defs.length:Int)<=d))else some true else some true else some true)) :
 o=some (if sc<0\/(l.Scopes.length:Int)<=sc then true else match l.Scopes[sc.toNat]? with|none=>true|some s=>decide (d<0\/(s.Defs.length:Int)<=d)):=by
 rw[ho];by_cases h1:sc<0
 .grind
 by_cases h2:(l.Scopes.length:Int)<=sc
 .simp_all
 rw[if_pos h1,if_pos h2,if_neg (show¬(sc<0\/(l.Scopes.length:Int)<=sc) by omega),Di (by omega) (by omega),caa (by omega)]
 grind
theorem nH{gs:List (List GNode)}{s:GSignature}{p:List GNode->GSignature->Option Bool}(hp:∀g∈gs,p g s=some (Yk g s)) (hg:gs.length<=1048576) {step:Int->Option (Ex Int Unit (List (List Int)×Int))}
 (hstep:∀i (hi:i<gs.length),step (i:Int)=(p gs[i] s).bind λx=>if x=false then some (.ret ([],17))else some (.go (ea .i64 ((i:Int)+1)))) (hend:step (gs.length:Int)=some (.brk ())) :
 fa step 0=some (if(gs.any λg=>!Yk g s)=true then .inr ([],17)else .inl ()):=by
 have h1:fa step 0=some (Vb () (ff (λi=>if(gs[i]?.any λg=>!Yk g s)=true then some (([],17):List (List Int)×Int)else none) gs.length)):=by
  refine Kb (λk=>(k:Int)) _ _ _ (λk hk _=>?_) (λ_=>hend) rfl;rw[hstep k hk,hp _ (iaa hk),aaa,xa (by omega),caa hk,Yaa];cases Yk gs[k] s<;>rfl
 rw[h1,←Wk (g:=λ_=>(([],17):List (List Int)×Int))]
 cases hf:ff (λi=>if(gs[i]?.any λg=>!Yk g s)=true then some (([],17):List (List Int)×Int)else none) gs.length with
 |none=>rfl
 |some v=>
  obtain⟨j,-,j2,-⟩:=Ta.1 hf;split at j2
  .injection j2 with j2;subst j2;rfl
  simp_all
theorem Mj{l:GLaw}(h:LawOk l) (sc def_ date:Int):pk l sc def_ date=some (bl l sc def_ date):=by
 unfold pk bl;rw[sD h,aaa];by_cases hv:(Ol l).Code=0
 .have hV:=xu hv;have hm:=hV.mem;have hr:=hV.rows;rw[if_neg (show¬¬(Ol l).Code=0 from λh=>h hv),if_neg (show¬¬(Ol l).Code=0 from λh=>h hv),GV (n:=0) rfl,aaa];by_cases hs:sc<0\/(l.Scopes.length:Int)<=sc
  .simp_all
  rw[if_neg hs,if_neg hs];obtain⟨i,rfl⟩:∃i:Nat,sc=(i:Int):=⟨sc.toNat,by omega⟩;have hi:i<l.Scopes.length:=by omega
  rw[rab,caa hi,Ba hi];have hS:=MB h (λx hx=>by grind) (λx hx=>by grind) hi;obtain⟨g1,g2,g3,g4,g5,g6⟩:=h.s _ (iaa hi);have hRu:∀r∈l.Scopes[i].Rules,RuleOk r:=λr hr=>OG h hi hr;dsimp only;generalize l.Scopes[i]=s at hS g1 g2 g3 g4 g5 g6 hRu⊢;by_cases hd:def_<0\/(s.Defs.length:Int)<=def_
  .simp_all
  rw[if_neg (show¬decide (def_<0\/(s.Defs.length:Int)<=def_)=true by simp_all),if_neg hd];have hdt:(if¬date<0 then some (decide (109572<date))else some true)=some (decide (date<0\/109572<date)):=by
   grind
  rw[hdt,aaa];by_cases hdd:date<0\/109572<date
  .simp_all
  rw[if_neg (by simp_all),if_neg hdd,aaa,Tw g2.rules,aaa,hS,aaa];have hgl:=pz s def_ date;have hgs:=λg hg=>RH (s:=s) (def_:=def_) (date:=date) (g:=g) hg;have gr:=g2.rules;generalize Yo s def_ date=gs at hgl hgs⊢;have hN:∀g∈gs,∀n∈g,xb n:=λg hg=>by
   grind
  rw[nH (p:=Ul) (λg hg=>CC (hN g hg) _) (by omega) (step:=Ii gs (js l s)) (λk hk=>by
   unfold Ii;rw[if_pos (by omega),Ba hk,aaa]) (by grind[Ii]),aaa]
  cases hfl:gs.any λg=>!Yk g (js l s)
  .simp only[haa,if_false];have hw:∀g∈gs,Wst g:=λg hg=>Zk (by have:=ead.1 hfl g hg;simpa using this);have hgl2:∀g∈gs,g.length<=1048576:=λg hg=>by have:=(hw g hg).le;omega
   have hl:fa (Gi l s gs) (([]:List (List Int)),0)=some (.inl (ui l gs s s.Inputs.length)):=by
    refine Kc (λk=>(ui l gs s k,(k:Int))) s.Inputs.length _ (λk hk=>?_) (by grind[Gi]) rfl;have hlen:=(mn hm (by omega) hw s k).1;unfold Gi;simp only[ui,caa hk];rw[if_pos (by omega),Ba hk,aaa,Uw (by omega) hgl2,aaa,Ty (by omega) hw hN,xa (by omega)];unfold TE;cases Ru gs (k:Int)
    .simp only[haa,if_false,aaa]
     grind[Xe]
    .simp only[if_true,aaa]
     grind[Ot,tr,Xe]
   grind[mn,xE]
  .rfl
 simp_all
theorem Qu{l:GLaw}(h:LawOk l) (sc def_ date:Int):qp l sc def_ date=some (bl l sc def_ date):=by
 unfold qp bl;rw[KA h,aaa];by_cases hv:(Ol l).Code=0
 .have hV:=xu hv;have hm:=hV.mem;have hr:=hV.rows;rw[if_neg (show¬¬(Ol l).Code=0 from λh=>h hv),if_neg (show¬¬(Ol l).Code=0 from λh=>h hv),GV (n:=0) rfl,aaa];by_cases hs:sc<0\/(l.Scopes.length:Int)<=sc
  .simp_all
  rw[if_neg hs,if_neg hs];obtain⟨i,rfl⟩:∃i:Nat,sc=(i:Int):=⟨sc.toNat,by omega⟩;have hi:i<l.Scopes.length:=by omega
  rw[rab,caa hi,Ba hi];have hS:=Ws h hi;obtain⟨g1,g2,g3,g4,g5,g6⟩:=h.s _ (iaa hi);have hRu:∀r∈l.Scopes[i].Rules,RuleOk r:=λr hr=>OG h hi hr;dsimp only;generalize l.Scopes[i]=s at hS g1 g2 g3 g4 g5 g6 hRu⊢;by_cases hd:def_<0\/(s.Defs.length:Int)<=def_
  .simp_all
  rw[if_neg (show¬decide (def_<0\/(s.Defs.length:Int)<=def_)=true by simp_all),if_neg hd];have hdt:(if¬date<0 then some (decide (109572<date))else some true)=some (decide (date<0\/109572<date)):=by
   grind
  rw[hdt,aaa];by_cases hdd:date<0\/109572<date
  .simp_all
  rw[if_neg (by simp_all),if_neg hdd,aaa,ND g2.rules,aaa,hS,aaa];have hgl:=pz s def_ date;have hgs:=λg hg=>RH (s:=s) (def_:=def_) (date:=date) (g:=g) hg;have gr:=g2.rules;generalize Yo s def_ date=gs at hgl hgs⊢;have hN:∀g∈gs,∀n∈g,xb n:=λg hg=>by
   grind
  rw[nH (p:=om) (λg hg=>MD (hN g hg) _) (by omega) (step:=Om gs (js l s)) (λk hk=>by
   unfold Om;rw[if_pos (by omega),Ba hk,aaa]) (by grind[Om]),aaa]
  cases hfl:gs.any λg=>!Yk g (js l s)
  .simp only[haa,if_false];have hw:∀g∈gs,Wst g:=λg hg=>Zk (by have:=ead.1 hfl g hg;simpa using this);have hgl2:∀g∈gs,g.length<=1048576:=λg hg=>by have:=(hw g hg).le;omega
   have hl:fa (Mm l s gs) (([]:List (List Int)),0)=some (.inl (ui l gs s s.Inputs.length)):=by
    refine Kc (λk=>(ui l gs s k,(k:Int))) s.Inputs.length _ (λk hk=>?_) (by grind[Mm]) rfl;have hlen:=(mn hm (by omega) hw s k).1;unfold Mm;simp only[ui,caa hk];rw[if_pos (by omega),PD (by omega) hgl2,aaa,Ba hk,aaa,Oz (by omega) hw hN,xa (by omega)];unfold TE;cases Ru gs (k:Int)
    .simp only[haa,if_false,aaa]
     grind[Xe]
    .simp only[if_true,aaa]
     grind[qu,tr,Xe]
   grind[mn,SE]
  .rfl
 simp_all
theorem qM{l:GLaw}(h:LawOk l) (sc def_ date:Int):(bl l sc def_ date).1.length<=1099511627776/\∀x∈(bl l sc def_ date).1,x.length<=1099511627776:=by
 unfold bl;split
 .simp
 rename_i hv;have hV:=xu (vaa.1 hv);split
 .simp
 split
 .simp
 rename_i s hs;obtain⟨hi,hs2⟩:=yaa.1 hs;have hsm:s∈l.Scopes:=hs2▸iaa hi;obtain⟨g1,g2,g3,-⟩:=h.s s hsm;have hgl:=pz s def_ date;have gr:=g2.rules;split
 .simp
 split
 .simp
 split
 .simp
 rename_i hfl;split
 .simp
 have hfl':∀g∈Yo s def_ date,Yk g (js l s)=true:=by simp_all
 have hw:∀g∈Yo s def_ date,Wst g:=λg hg=>Zk (hfl' g hg);obtain⟨q1,q2⟩:=mn hV.mem (by omega) hw s s.Inputs.length
 grind
theorem UF{t0 t1 out:List Int}(h:TreeOk t0 t1) {f:Int->Int}{i:Int}(ho:∀x∈nq t0 i,idx out x=some (f x)):Ic ⟨t0,t1,out⟩ i=some (Jj t1 f (nq t0 i)):=by
 have hle:=h.le;have hlen:=h.len;have hcl:=Ew t0 i t0.length;unfold Ic;dsimp only;rw[Jq (by omega) i,aaa];have hb:=jA (t1:=t1) (out:=f) (l:=nq t0 i) (by grind[nq]) (λx hx=>by have:=Hs h hx;omega) (step:=nd ⟨t0,t1,out⟩ (nq t0 i)) (g:=λx=>idx out x) ho (mt:=λq=>(Zq q 0).bind λx14=>some x14) (λq=>by rw[show(0:Int)=((0:Nat):Int)from rfl,bt (by omega)];rfl) (λa b=>by grind[nd])
 simp_all
theorem wC{t0 t1:List Int}{t2:List Bool}(hs:Gt t0 t1 t2 = -2):∃a b ok,kb t0 t1 t2=some (a,b,ok)/\(0<=a/\a<(t0.length:Int))/\(0<=b/\b<(t0.length:Int)):=by
 have hc:Bw t0 t1=0/\t2.length=t0.length:=Classical.byContradiction λh=>by
  simp_all[Gt]
 have h:=Qw hc.1;have hO:∀i,∀x∈nq t0 i,idx ((uaa t0.length).map λ(k:Nat)=>O t0 t1 t2 (k:Int)) x=some (O t0 t1 t2 x):=λi x hx=>by
  have:=Hs h hx;obtain⟨k,rfl⟩:=dab this.2.1
  grind[Ba]
 have hpos:0<t0.length:=by
  unfold Gt at hs;rw[if_pos hc]at hs;unfold rC at hs;have hsub:=xn (t1:=t1) (out:=O t0 t1 t2) (l:=nq t0 (-1));generalize Jj t1 (O t0 t1 t2) (nq t0 (-1))=r at hs hsub;rcases r with _|⟨x,q⟩
  .grind
  .have:=Hs h (hsub x (by simp));omega
 unfold kb;rw[Gf,aaa,hs,if_neg (by simp),my h hc.2,aaa,UF h (hO (-1)),aaa];have hm:∀i,∀y∈Jj t1 (O t0 t1 t2) (nq t0 i),i<y/\0<=y/\y<(t0.length:Int):=λi y hy=>Hs h (xn y hy);obtain⟨b,h1,h2⟩:=sP (step:=Eb t0 t1 ((uaa t0.length).map λ(k:Nat)=>O t0 t1 t2 (k:Int)))
  (λs=>∀y∈s,0<=y/\y<(t0.length:Int)) (λs=>match s with|[x]=>((t0.length:Int)-x).toNat|_=>0) (λb=>∀y∈b,0<=y/\y<(t0.length:Int)) (λs hi=>by
   unfold Eb;rcases s with _|⟨x,_|⟨y,q⟩⟩
   .simp
   .have hx:=hi x (by simp);left;rw[if_pos (by simp),show idx [x] 0=some x by simp[idx],aaa,UF h (hO x),aaa];refine⟨_,rfl,λy hy=>(hm x y hy).2,?_⟩;have hmx:=hm x;generalize Jj t1 (O t0 t1 t2) (nq t0 x)=r at hmx;rcases r with _|⟨z,_|⟨w,q⟩⟩
    .simp_all
    .have:=hmx z (by simp);grind
    simp_all
   .exact .inr ⟨_,if_neg (by grind),hi⟩) _ _ (oaa _) (λy hy=>(hm (-1) y hy).2)
 rw[h1,aaa];dsimp only;rcases b with _|⟨x,_|⟨y,q⟩⟩
 .exact⟨0,0,false,if_pos (by simp),by omega,by omega⟩
 .exact⟨0,0,false,if_pos (by simp),by omega,by omega⟩
 .rw[if_neg (by grind),wg,mD];exact⟨x,y,true,rfl,h2 x (by simp),h2 y (by simp)⟩
theorem E1{n:Nat}{f:Nat->Bool}{ρ:Type}{step:List Bool×Int->Option (Ex (List Bool×Int) (List Bool) ρ)}(hs:∀i,i<n->∀a:List Bool,a.length=n->step (a,(i:Int))=some (.go (a.set i (f i),((i+1:Nat):Int)))) (he:∀a,step (a,(n:Int))=some (.brk a)) :
 fa step (gaa n false,0)=some (.inl ((uaa n).map f)):=by
 refine Kc (λi=>((uaa n).map λk=>if k<i then f k else false,(i:Int))) n _ (λi hi=>?_) ?_ ?_
 .rw[hs i hi _ (by simp)];congr 3;apply rac (by simp)
  grind
 .simp_all
 .simp;apply rac (by simp);simp
def Bx(s:GScope) (i:Int):List GNode:=((s.Rules[i.toNat]?).map (·.Guard)).getD []
noncomputable def gT(e:List GNode) (env:GEnv):Bool:=if(e.length:Int)=0 then true else((Hb e env).map λp=>decide (p.2=0)&&(p.1.N==1)).getD false
noncomputable def jr(s:GScope) (rules:List Int) (env:GEnv):List Bool:=(uaa rules.length).map λk=>gT (Bx s (rules.getD k 0)) env
theorem CJ{s:GScope}{rules:List Int}{env:GEnv}{i:Nat}(hi:i<rules.length) (hm:∀x∈rules,0<=x/\x<(s.Rules.length:Int)) (ht:∀x∈rules,(Bx s x).length≠0->FB (Hb (Bx s x) env)) {a:List Bool}(ha:a.length=rules.length) :
 ((
  idx rules (i:Int)).bind λx5=>(idx s.Rules x5).bind λx6=>
  if(x6.Guard.length:Int)=0 then(idx a (i:Int)).bind λx8=>(put a (i:Int) true).bind λx9=>some x9
  else(Hb x6.Guard env).bind λx10=>if x10.2=0 then(idx a (i:Int)).bind λx12=>(put a (i:Int) (x10.1.N==1)).bind λx13=>some x13
   else(idx a (i:Int)).bind λx14=>(put a (i:Int) false).bind λx15=>some x15)=some (a.set i (gT (Bx s (rules.getD i 0)) env)):=by
 have hx:=hm _ (iaa hi);have hT:=ht _ (iaa hi);rw[Ba hi,aaa,Di hx.1 hx.2,aaa,Ba (by omega)];have eg:Bx s rules[i]=(s.Rules[rules[i].toNat]'(by omega)).Guard:=by grind[Bx]
 have er:rules.getD i 0=rules[i]:=by simp_all
 rw[er];rw[←eg];generalize Bx s rules[i]=e at hT⊢;unfold gT;by_cases h0:(e.length:Int)=0
 .simp_all[dw]
 .obtain⟨p,hp,-⟩:=hT (by omega);rw[if_neg h0,if_neg h0,hp,aaa];by_cases h2:p.2=0
  all_goals simp_all[dw]
theorem Rq{l:GLaw}{s:GScope}{rules:List Int}{date:Int}{kl:List GValue}(hr:rules.length<=1048576) (hm:∀x∈rules,0<=x/\x<(s.Rules.length:Int)) (ht:∀x∈rules,(Bx s x).length≠0->FB (Hb (Bx s x) ⟨date,kl,[],[],[],l.Tables⟩)) :
 Sf l s rules date kl=some (jr s rules ⟨date,kl,[],[],[],l.Tables⟩):=by
 unfold Sf;rw[UB (by omega) (by omega),aaa,E1 (step:=Sd l s rules date kl) (f:=λk=>gT (Bx s (rules.getD k 0)) ⟨date,kl,[],[],[],l.Tables⟩) (λi hi a ha=>by
  unfold Sd;dsimp only;rw[if_pos (by omega),CJ hi hm ht ha,aaa,xa (by omega)]) (λa=>by simp_all[Sd])]
 rfl
def qD(fs:List GField) (g:List (List Int)) (c:List Int) (i:Nat):GValue:=⟨((fs[i]?).map (·.Type_.Kind)).getD 0,((fs[i]?).map (·.Type_.Enum)).getD 0,((g.getD i [])[(c.getD i 0).toNat]?).getD 0⟩
def Mn(fs:List GField) (g:List (List Int)) (c:List Int):List GValue:=(uaa fs.length).map (qD fs g c)
theorem Sc.get:∀{g:List (List Int)}{c:List Int},Sc g c->∀i (h:i<g.length),∃h2:i<c.length,0<=c[i]/\c[i]<(g[i].length:Int)
 |l::g,a::r,h,0,_=>⟨by simp,h.1.1,h.1.2.1⟩
 |l::g,a::r,h,i+1,hi=>by
  obtain⟨h2,h3⟩:=Sc.get h.2 i (by simpa using hi);exact⟨by simpa using h2,by simpa using h3⟩
theorem Kw{fs:List GField}{g:List (List Int)}{c:List Int}(hf:fs.length<=1048576) (hg:g.length=fs.length) (hc:Sc g c) {step:List GValue×Int->Option (Ex (List GValue×Int) (List GValue) Unit)}
 (hs:∀a i,step (a,i)=if i<(fs.length:Int)then(idx fs i).bind λx13=>(idx g i).bind λx14=>(idx c i).bind λx15=>(idx x14 x15).bind λx16=>(app 24 a ([(GValue.mk x13.Type_.Kind x13.Type_.Enum x16)])).bind λx17=>some (Ex.go (x17,(ea .i64 (i+1))))else some (Ex.brk a)) :
 fa step (([]:List GValue),0)=some (.inl (Mn fs g c)):=by
 refine Kc (λi=>((uaa i).map (qD fs g c),(i:Int))) fs.length _ (λi hi=>?_) ?_ rfl
 .obtain⟨h2,h3,h4⟩:=hc.get i (by omega);rw[hs,if_pos (by omega),Ba hi,aaa,Ba (by omega),aaa,Ba h2,aaa,Di h3 h4,aaa,Xe (by simp;omega),aaa,xa (by omega),List.range_succ,aab];congr 4;unfold qD;simp[caa hi,List.getD_eq_getElem?_getD,caa h2,caa (show i<g.length by omega),caa (show c[i].toNat<g[i].length by omega)]
 .rw[hs,if_neg (by omega)];rfl
end Go.Proofs.Dev
