/-
  The functions as plain partial functions, and plain lemmas about them: no condition.
-/
import Derived.Test.YtjiaejcpmcknnaaGreatDoorPB
import Derived.Test.YtjiaejcpmcknnaaGreatDoorPA
open Bool renaming and_eq_true->paa,eq_false_iff->pab,false_eq_true->maa,not_true->Oab,true_and->Zaa,true_eq_false->waa
open Classical renaming not_not->xaa
open Int renaming eq_ofNat_of_zero_le->Fab,mul_le_mul->sac,mul_nonneg->Oad,natCast_one->Zac,reduceBEq->oaa,reduceEq->naa,reduceLE->qaa,tdiv->Faa,tmod->Qaa,toNat_natCast->qab
open List renaming all_eq_true->Uaa,any_eq_false->wad,append_assoc->kab,drop_eq_getElem_cons->Taa,ext_getElem->Bac,filter_append->rab,getElem?_append_right->Mab,getElem?_eq_getElem->faa,getElem?_eq_some_iff->Haa,getElem_mem->laa,getElem_of_mem->Daa,getElem_set_self->aad,length_append->Oaa,length_cons->Jaa,length_filter_le->gab,length_nil->bab,length_replicate->Xaa,length_singleton->Yaa,map_append->nab,mem_append->tab,mem_of_getElem?->Eaa,pairwise_append->Dac,range->yaa,replicate->jaa,replicate_succ->iab,replicate_succ'->Sab,set_append_right->iac,set_cons_zero->Pab,take_add_one->Raa
open Nat renaming add_sub_cancel->sad,le_refl->saa,mul_le_mul_right->Gaa,strongRecOn->lac,sub_self->Qab,succ_mul->Lac,zero_add->jab
open Option renaming any_some->dab,bind->eaa,bind_some->daa,toList_some->Eab
open Option.some renaming inj->Iaa,injEq->Laa
set_option linter.all false
set_option maxRecDepth 10000
set_option maxHeartbeats 1000000
namespace Go.Proofs.Dev
open Go Go.Tm
def neB(r:GDateRange):Bool:=decide (0<=r.From)&&(decide (r.To<=109573)&&decide (r.From<r.To))
def ends:List GDateRange->List Int
 |[]=>[]
 |r::l=>(if neB r=true then [r.From,r.To]else [])++ends l
theorem DI{α β:Type}{n:Nat}{l:List α}(hn:n=l.length) {step:List β×Int->Option (Ex (List β×Int) (List β) Unit)}(g:List α->List β) (x0:List β)
 (hgo:∀i (h:i<l.length),step (x0++g (l.take i),(i:Int))=some (.go (x0++g (l.take (i+1)),((i+1:Nat):Int)))) (hend:∀x,step (x,(n:Int))=some (.brk x)) (h0:g []=[]):fa step (x0,0)=some (.inl (x0++g l)):=by
 subst hn;refine Xc (λi=>(x0++g (l.take i),(i:Int))) l.length _ (λi hi=>hgo i hi) ?_ (by grind)
 simp_all
def known(t1:Int) (f:GFact):Bool:=decide (f.Recorded<=t1)&&neB f.Valid
def AF(r:GDateRange) (d:Int):Bool:=GN r&&(decide (r.From<=d)&&decide (d<r.To))
theorem Up(r:GDateRange) (d:Int):qe r d=some (AF r d):=by
 grind[qe,AF,Nn]
theorem IA(r:GDateRange) (d:Int):Oi r d=some (AF r d):=by
 grind[Oi,AF,Hp]
def Mt(def_ date:Int) (r:GRule):Bool:=decide (r.Def=def_)&&AF r.Valid date
def Fc(rules:List GRule) (q:GRule->Bool):Nat->List Int×List Int×List Int
 |0=>([],[],jaa rules.length 0)
 |i+1=>
  match rules[i]? with
  |none=>Fc rules q i
  |some r=>
   let p:=Fc rules q i
   let anc:=if 0<=r.Parent/\r.Parent<(i:Int)then(p.2.2[r.Parent.toNat]?).getD 0 else -1
   if q r=true then(p.1++[(i:Int)],p.2.1++[anc],(p.2.2.set i anc).set i (p.1.length:Int))else(p.1,p.2.1,p.2.2.set i anc)
theorem Il{rules:List GRule}{q:GRule->Bool}:∀i,(Fc rules q i).2.2.length=rules.length/\(Fc rules q i).1.length<=i/\(Fc rules q i).2.1.length=(Fc rules q i).1.length
 |0=>by simp[Fc]
 |i+1=>by
  obtain⟨h1,h2,h3⟩:=Il (rules:=rules) (q:=q) i
  grind[Fc]
theorem Jl{rules:List GRule}{q:GRule->Bool}:∀i,∀x∈(Fc rules q i).1,0<=x/\x<(rules.length:Int)/\x<(i:Int)
 |0=>by simp[Fc]
 |i+1=>by
  have h:=Jl (rules:=rules) (q:=q) i;unfold Fc
  grind
theorem No{rules:List GRule}(hr:rules.length<=1048576) {f:GRule->Option Bool}{q:GRule->Bool}(hf:∀r,f r=some (q r)):ic rules f=some ((Fc rules q rules.length).1,(Fc rules q rules.length).2.1):=by
 unfold ic;rw[GA (by omega) (by omega),daa];have hl:fa (Hd rules f) (([]:List Int),([]:List Int),jaa rules.length 0,0)=some (.inl ((Fc rules q rules.length).1,(Fc rules q rules.length).2.1)):=by
  refine Xc (λi=>((Fc rules q i).1,(Fc rules q i).2.1,(Fc rules q i).2.2,(i:Int))) rules.length _ (λi hi=>?_) (by grind[Hd]) rfl;obtain⟨h1,h2,h3⟩:=Il (rules:=rules) (q:=q) i;unfold Hd;simp only[Fc,faa hi];rw[if_pos (by omega),Aa hi,daa,ya (by omega),hf];generalize rules[i]=r;have hanc:(eaa (α:=Int) (eaa (α:=Bool) (if 0<=r.Parent then some (decide (r.Parent<(i:Int)))else some false) λj9=>if j9=true then(idx (Fc rules q i).2.2 r.Parent).bind λx11=>some x11 else some (-1)) λj12=>some j12)=some (if 0<=r.Parent/\r.Parent<(i:Int)then((Fc rules q i).2.2[r.Parent.toNat]?).getD 0 else -1):=by
   by_cases g1:0<=r.Parent
   .by_cases g2:r.Parent<(i:Int)
    .rw[if_pos g1,daa,if_pos (by simp_all),if_pos ⟨g1,g2⟩,Ij g1 (by omega),faa (by omega)];rfl
    grind
   grind
  have hanc':(eaa (α:=Bool) (if 0<=r.Parent then some (decide (r.Parent<(i:Int)))else some false) λj9=>if j9=true then(idx (Fc rules q i).2.2 r.Parent).bind λx11=>some x11 else some (-1))=some (if 0<=r.Parent/\r.Parent<(i:Int)then((Fc rules q i).2.2[r.Parent.toNat]?).getD 0 else -1):=by
   simp_all
  rw[hanc',daa];generalize (if 0<=r.Parent/\r.Parent<(i:Int)then((Fc rules q i).2.2[r.Parent.toNat]?).getD 0 else -1)=anc;rw[Aa (i:=i) (by omega),daa,ry (by omega),daa,daa];cases q r
  .simp
  .rw[if_pos rfl,Aa (i:=i) (by simp_all),daa,ry (by simp_all),daa,Hf (by grind),daa,Hf (by grind),daa];rfl
 simp_all
theorem Fq{s:GScope}(hs:s.Rules.length<=1048576) (def_ date:Int):oi s def_ date=some (Fc s.Rules (Mt def_ date) s.Rules.length).1:=by
 unfold oi;have hl:fa (Ui s def_ date) (([]:List Int),0)=some (.inl (Fc s.Rules (Mt def_ date) s.Rules.length).1):=by
  refine Xc (λi=>((Fc s.Rules (Mt def_ date) i).1,(i:Int))) s.Rules.length _ (λi hi=>?_) (by grind[Ui]) rfl;obtain⟨h1,h2,h3⟩:=Il (rules:=s.Rules) (q:=Mt def_ date) i;unfold Ui;simp only[Fc,faa hi];rw[if_pos (by omega),Aa hi,daa,ya (by omega),IA];generalize s.Rules[i]=r;have hq:(if r.Def=def_ then(some (AF r.Valid date)).bind λx6=>some x6 else some false)=some (Mt def_ date r):=by
   grind[Mt]
  rw[hq,daa];cases Mt def_ date r
  .simp
  .rw[if_pos rfl,Hf (by grind)];rfl
 simp_all
def upN(neg:Bool) (mode:Int) (q r d:Nat):Prop:=
 (mode=0/\neg=true/\0<r)\/(mode=1/\neg=false/\0<r)\/(mode=3/\0<r)\/(mode=4/\d<=r+r)\/(mode=5/\(d<r+r\/(d=r+r/\q % 2=1)))
instance (neg:Bool) (mode:Int) (q r d:Nat):Decidable (upN neg mode q r d):=by unfold upN;infer_instance
def upF(mode q r d:Int):Prop:=
 r≠0/\(mode=1\/(mode=2/\q<0)\/(mode=3/\0<=q)\/(mode=4/\(d-r<r\/(r=d-r/\0<=q)))\/(mode=5/\(d-r<r\/(r=d-r/\q % 2≠0))))
instance (mode q r d:Int):Decidable (upF mode q r d):=by unfold upF;infer_instance
theorem vW{σ β ρ:Type}{step:σ->Option (Ex σ β ρ)}(I:σ->Prop) (mu:σ->Nat) (Q:β->Prop) (h:∀s,I s->(∃s',step s=some (.go s')/\I s'/\mu s'<mu s)\/∃b,step s=some (.brk b)/\Q b) :
 ∀(n:Nat) (s:σ),mu s<=n->I s->∃b,fa step s=some (.inl b)/\Q b
 |0,s,hn,hi=>by
  grind[Wf]
 |n+1,s,hn,hi=>by
  rcases h s hi with⟨s',h1,h2,h3⟩|⟨b,h1,h2⟩
  .obtain⟨b,h4,h5⟩:=vW I mu Q h n s' (by omega) h2
   grind[kl]
  grind[Wf]
def inside(r:GDateRange) (x:Int):Bool:=decide (r.From<x)&&decide (x<r.To)
def Bd(v:GValue):Prop:=
 (v.Kind=1/\v.Enum=0/\0<=v.N/\v.N<=1)\/(v.Kind=2/\v.Enum=0/\-1000000000000<=v.N/\v.N<=1000000000000)\/(v.Kind=3/\v.Enum=0/\-1000000000000000<=v.N/\v.N<=1000000000000000)\/
 (v.Kind=4/\v.Enum=0/\-1000000000<=v.N/\v.N<=1000000000)\/(v.Kind=5/\v.Enum=0/\0<=v.N/\v.N<=109572)\/(v.Kind=6/\0<=v.Enum/\v.Enum<8/\0<=v.N/\v.N<16)
instance (v:GValue):Decidable (Bd v):=by unfold Bd;infer_instance
def Cn(v:GValue):Bool:=decide (Bd v)
theorem dL{a b:Prop} [Decidable a] [Decidable b]:(eaa (α:=Bool) (if a then some (decide b)else some false) λj=>some j)=some (decide (a/\b)):=by
 grind
theorem iteE{a:Prop} [Decidable a] {b:Bool}:(if¬a then some b else some false)=some (!decide a&&b):=by
 grind
theorem fc(v:GValue):Kb v=some (Cn v):=by
 obtain⟨K,E,N⟩:=v;unfold Kb Cn Bd;simp only[dL,iteE,daa]
 grind[decide]
theorem Ag(v:GValue):Gb v=some (Cn v):=by
 obtain⟨K,E,N⟩:=v;unfold Gb ir Cn Bd
 grind[decide]
theorem B1{l:List GValue}(hl:l.length<=1048576):Jd l=some (l.all Cn)/\fa (Ri l) 0=some (if l.all Cn=true then .inl ()else .inr (⟨0,0,0⟩,8)):=by
 have e1:fa (Qb l) 0=some (Mb () (ff (λi=>if(l[i]?.any λv=>!Cn v)=true then some false else none) l.length)):=
  Lb (λi=>(i:Int)) _ l.length () (λi hi _=>by
   unfold Qb;rw[if_pos (by omega),Aa hi,faa hi]
   grind[pD,fc,ya]) (λ_=>by grind[Qb])
 have e2:fa (Ri l) 0=some (Mb () (ff (λi=>if(l[i]?.any λv=>!Cn v)=true then some ((⟨0,0,0⟩,8):GValue×Int)else none) l.length)):=
  Lb (λi=>(i:Int)) _ l.length () (λi hi _=>by
   unfold Ri;rw[if_pos (by omega),Aa hi,faa hi]
   grind[pD,Ag,ya]) (λ_=>by grind[Ri])
 unfold Jd;rw[e1,e2];by_cases h:l.all Cn=true
 .have hn:∀i,i<l.length->(l[i]?.any λv=>!Cn v)=false:=by
   simp_all
  rw[Ob.2 (λi hi=>by simp_all),Ob.2 (λi hi=>by simp_all),h];exact⟨rfl,rfl⟩
 .have hb:l.all Cn=false:=by simp_all
  obtain⟨x,hx,hx2⟩:∃x∈l,Cn x=false:=by
   simp_all
  obtain⟨k,hk,rfl⟩:=Daa hx;have ne:∀{ρ:Type} (v:ρ),ff (λi=>if(l[i]?.any λv=>!Cn v)=true then some v else none) l.length=some v:=by
   intro ρ v
   cases hf:ff (λi=>if(l[i]?.any λv=>!Cn v)=true then some v else none) l.length with
   |none=>
    grind[Ob]
   |some w=>
    obtain⟨i,_,h2,_⟩:=Sa.1 hf
    simp_all
  rw[ne,ne,hb];exact⟨rfl,rfl⟩
def JN(n:GNode):Bool:=
 decide (n.N=0\/Wb n.Op=true)&&decide ((14<=n.Op/\n.Op<=16->0<=n.N/\n.N<=5)/\(n.Op=34->0<=n.N/\n.N % 8<=5)/\(n.Op=6->0<=n.N))
theorem Z9{n:GNode}:(eaa (α:=Bool) (if n.Op=14 then some true else if n.Op=15 then some true else some (n.Op==16)) λj9=>
 if j9=true then eaa (α:=Bool) (if 0<=n.N then some (decide (n.N<=5))else some false) λj12=>some j12
 else if n.Op=34 then eaa (α:=Bool) (if 0<=n.N then some (decide ((Qaa n.N 8)<=5))else some false) λj15=>some j15
 else if n.Op=6 then some (decide (0<=n.N))else some true)=some (decide ((14<=n.Op/\n.Op<=16->0<=n.N/\n.N<=5)/\(n.Op=34->0<=n.N/\n.N % 8<=5)/\(n.Op=6->0<=n.N))):=by
 obtain⟨op,N⟩:=n;dsimp only;simp only[dL];by_cases h14:op=14
 .simp_all
 by_cases h15:op=15
 .simp_all
 by_cases h16:op=16
 .simp_all
 by_cases h34:op=34
 .subst h34;simp
  grind
 by_cases h6:op=6
 .simp_all
 simp[h14,h15,h16,h34,h6];omega
theorem VL{op:Int}(h:1<=op/\op<=39):0<=gb op:=by
 grind[gb]
theorem Jw(n:GNode):Hj n=some (decide (1<=n.Op/\n.Op<=39)&&JN n):=by
 unfold Hj;rw[Jf,daa,Z9];by_cases h:1<=n.Op/\n.Op<=39
 .have:=VL h;rw[if_pos (by omega),Fa h,decide_eq_true h,Zaa];unfold JN;by_cases hN:n.N=0
  .grind
  .cases hu:Wb n.Op<;>simp[hN]
 grind[Ew]
theorem RD(n:GNode) (k:Nat):so n k=some (decide (1<=n.Op/\n.Op<=39)&&(decide (gb n.Op=k)&&JN n)):=by
 unfold so;rw[Ip,daa,Z9];by_cases h:1<=n.Op/\n.Op<=39
 .have hm:Hm n.Op=some (Wb n.Op):=by
   rcases Hz h with h|h|h|h|h|h|h|h|h|h|h|h|h|h|h|h|h|h|h|h|h|h|h|h|h|h|h|h|h|h|h|h|h|h|h|h|h|h|h<;>rw[h]<;>simp[Hm,Wb]
  rw[hm,decide_eq_true h,Zaa];unfold JN;by_cases hk:gb n.Op=k
  .rw[if_pos hk,decide_eq_true hk,Zaa];by_cases hN:n.N=0
   .grind
   .cases hu:Wb n.Op<;>simp[hN]
  simp_all
 simp_all[Ew]
def Jo(n:GNode) (env:GEnv):Bool:=
 if n.Op=7 then decide (0<=n.N/\n.N<(env.Inputs.length:Int))else
 if n.Op=8 then decide (0<=n.N/\n.N<(env.Defs.length:Int))&&!(((env.Defs[n.N.toNat]?).map (·.Kind)).getD 0==0)else
 if n.Op=33 then decide (0<=n.N/\n.N<(env.Tables.length:Int))else
 if n.Op=34 then decide (da .i64 (Faa n.N 8)<(env.Tables.length:Int))else
 if 36<=n.Op/\n.Op<=39 then decide (0<=n.N/\n.N<(env.MemberTypes.length:Int))else true
theorem NT{op:Int}{α:Type}{k:Bool->Option α}:(eaa (α:=Bool) (if op=36 then some true else if op=37 then some true else if op=38 then some true else some (op==39)) k)=k (decide (36<=op/\op<=39)):=by
 by_cases h1:op=36
 .simp_all
 by_cases h2:op=37
 .simp_all
 by_cases h3:op=38
 .simp_all
 by_cases h4:op=39
 .simp_all
 rw[if_neg h1,if_neg h2,if_neg h3,daa]
 grind[decide_eq_false_iff_not]
theorem It(n:GNode) (env:GEnv):Wp n env=some (Jo n env):=by
 unfold Wp Jo;simp only[NT,dL];split
 .rfl
 split
 .by_cases h0:0<=n.N
  .by_cases h1:n.N<(env.Defs.length:Int)
   .rw[if_pos h0,if_pos h1,Ij h0 h1,faa (by omega)];grind
   grind
  grind
 grind
theorem YE(n:GNode) (env:GEnv):jq n env=some (Jo n env):=by
 unfold jq Jo;simp only[NT,dL];split
 .rfl
 split
 .by_cases h0:0<=n.N
  .by_cases h1:n.N<(env.Defs.length:Int)
   .rw[if_pos h0,if_pos h1,Ij h0 h1,faa (by omega)];grind
   grind
  grind
 grind
noncomputable def Nc(n:GNode) (args:List GValue) (env:GEnv):Option (GValue×Int):=
 (sa n args env).bind λa=>if a=false then some (⟨0,0,0⟩,8)else
 (Ga n args env).bind λx=>if¬x.2=0 then some (⟨0,0,0⟩,x.2)else
 if Cn x.1=false then some (⟨0,0,0⟩,3)else some (x.1,0)
noncomputable def zk(n:GNode):List GValue->GEnv->Option (GValue×Int)
 |[],env=>if 36<=n.Op/\n.Op<=39 then Jp n env else mi n env
 |[a],env=>bm n a env
 |[a,b],_=>Ih n a b
 |[a,b,c],_=>if a.Kind=1/\b.Kind=c.Kind/\b.Enum=c.Enum then(if a.N=1 then some (b,0)else some (c,0))else some (⟨0,0,0⟩,8)
 |_,_=>none
def Ot(e r:Option (GValue×Int)):Prop:=∃p,e=some p/\r=some p/\(p.2=0->Bd p.1)
theorem vr{c:Int}(h:c≠0):Ot (some (⟨0,0,0⟩,c)) (some (⟨0,0,0⟩,c)):=⟨_,rfl,rfl,λh2=>absurd h2 h⟩
theorem Nq{x:Option (GValue×Int)}:(x.bind λy=>some (y.1,y.2))=x:=by cases x<;>rfl
theorem qJ{n:GNode}{args:List GValue}{env:GEnv}(ha:args.length<=3) (h:1<=n.Op/\n.Op<=39->gb n.Op=args.length->JN n=true->Jo n env=true->(∀a∈args,Bd a)->Ot (Nc n args env) (zk n args env)):Ot (Wa n args env) (Bl n args env):=by
 unfold Wa Bl;obtain⟨a1,a2⟩:=B1 (l:=args) (by omega);rw[Jw,Jf,It,RD,YE,a1,a2];simp only[daa];by_cases h1:1<=n.Op/\n.Op<=39
 case neg=>grind[vr]
 rw[decide_eq_true h1];simp only[Zaa];by_cases h2:JN n=true
 case neg=>rw[pab.2 h2];simp_all[vr]
 rw[h2];simp only[Bool.and_true,if_true];by_cases h3:gb n.Op=args.length
 case neg=>
  grind[vr]
 have:((args.length:Int) !=gb n.Op)=false:=by grind
 rw[this,decide_eq_true h3];simp only[daa,maa,if_false,waa];by_cases h4:Jo n env=true
 case neg=>rw[pab.2 h4];grind[vr]
 rw[h4];simp only[waa,if_false];by_cases h5:args.all Cn=true
 case neg=>rw[pab.2 h5];grind[vr]
 rw[h5];simp only[if_true];have hp:∀a∈args,Bd a:=λa ha=>of_decide_eq_true (Uaa.1 h5 a ha);have hc:=h h1 h3 h2 h4 hp;have e1:(eaa (α:=Bool) ((sa n args env).bind λx10=>some (!x10)) λj11=>if j11=true then some ((⟨0,0,0⟩:GValue),(8:Int))else(Ga n args env).bind λx13=>if¬x13.2=0 then some (⟨0,0,0⟩,x13.2)else(Kb x13.1).bind λx15=>if x15=false then some (⟨0,0,0⟩,3)else some (x13.1,0))=Nc n args env:=by
  unfold Nc
  cases sa n args env with
  |none=>rfl
  |some b=>
   grind[fc]
 rw[e1];rcases args with _|⟨a,_|⟨b,_|⟨c,_|⟨d,l⟩⟩⟩⟩
 .simp only[bab,Int.natCast_zero,if_true]
  grind[zk,Nq]
 all_goals grind[zk,qg,Nq,RE,LY]
def Ak(v:GValue):GValue×Int:=if Cn v=true then(v,0)else(⟨0,0,0⟩,3)
theorem YG(k n:Int):we k n=some (Ak ⟨k,0,n⟩):=by
 grind[we,Ak,Ag]
theorem oL(v:GValue):(Ak v).2=0->Bd (Ak v).1:=by
 grind[Ak,Cn]
theorem YL(v:GValue):Ot (some (Ak v)) (some (Ak v)):=⟨_,rfl,rfl,oL v⟩
theorem yr{n:GNode}{args:List GValue}{env:GEnv}(h:sa n args env=some true) {v:GValue}{e:Int}(hc:Ga n args env=some (v,e)):Nc n args env=some (if e=0 then Ak v else(⟨0,0,0⟩,e)):=by
 grind[Nc,Ak]
theorem Wy{n:GNode}{args:List GValue}{env:GEnv}(h:sa n args env=some false):Nc n args env=some (⟨0,0,0⟩,8):=by
 grind[Nc]
theorem Py{n:GNode}{args:List GValue}{env:GEnv}(h:sa n args env=some true) {v:GValue}{e:Int}(hc:Ga n args env=some (v,e)) (hr:zk n args env=some (if e=0 then Ak v else(⟨0,0,0⟩,e))):Ot (Nc n args env) (zk n args env):=by
 rw[yr h hc,hr];by_cases h0:e=0
 all_goals simp_all[YL,vr]
theorem pG{n:GNode}{args:List GValue}{env:GEnv}(h:sa n args env=some false) (hr:zk n args env=some (⟨0,0,0⟩,8)):Ot (Nc n args env) (zk n args env):=by
 grind[Wy,vr]
theorem JT{v:GValue}(h:Bd v):Ak v=(v,0):=if_pos (decide_eq_true h)
theorem DO{op N:Int}{env:GEnv}(h:1<=op/\op<=5):Ot (Nc ⟨op,N⟩ [] env) (zk ⟨op,N⟩ [] env):=by
 refine Py (v:=⟨op,0,N⟩) (e:=0) ?_ ?_ ?_
 .have:op=1\/op=2\/op=3\/op=4\/op=5:=by omega
  rcases this with rfl|rfl|rfl|rfl|rfl<;>simp[sa]
 .have:op=1\/op=2\/op=3\/op=4\/op=5:=by omega
  rcases this with rfl|rfl|rfl|rfl|rfl<;>simp[Ga]
 .unfold zk;dsimp only;rw[if_neg (by omega),if_pos rfl];unfold mi;dsimp only;rw[if_neg (by omega),if_neg (by omega),if_neg (by omega),if_neg (by omega),if_neg (by omega),YG];rfl
theorem AX{N:Int}{env:GEnv}:Ot (Nc ⟨6,N⟩ [] env) (zk ⟨6,N⟩ [] env):=by
 refine Py (v:=⟨6,da .i64 (Faa N 16),Qaa N 16⟩) (e:=0) (by simp[sa]) (by simp[Ga]) ?_
 grind[zk,mi,Ak,Ag]
theorem BX{N:Int}{env:GEnv}(hf:Jo ⟨7,N⟩ env=true):Ot (Nc ⟨7,N⟩ [] env) (zk ⟨7,N⟩ [] env):=by
 simp only[Jo,if_true,decide_eq_true_eq]at hf
 grind[sa,Ga,zk,mi,Ak,Ij,Py,fc,Ag,pG]
theorem xq(k:Int):Of k=some (decide (2<=k/\k<=4)):=by
 unfold Of;by_cases h2:k=2
 .simp_all
 by_cases h3:k=3
 .simp_all
 rw[if_pos h2,if_pos h3,daa]
 grind[decide_eq_false]
theorem pw(k:Int):vj k=some (decide (2<=k/\k<=4)):=by
 unfold vj;by_cases h2:k=2
 .simp_all
 by_cases h3:k=3
 .simp_all
 rw[if_pos h2,if_pos h3,daa]
 grind[decide_eq_false]
theorem bd(b:Bool):rf b=some ⟨1,0,if b=true then 1 else 0⟩:=by cases b<;>rfl
theorem Im(b:Bool):Qe b=some (⟨1,0,if b=true then 1 else 0⟩,0):=by cases b<;>rfl
theorem kn(b:Bool):Ak ⟨1,0,if b=true then 1 else 0⟩=(⟨1,0,if b=true then 1 else 0⟩,0):=by cases b<;>exact JT (by decide)
theorem xS{N:Int}{a:GValue}{env:GEnv}(ha:Bd a):Ot (Nc ⟨25,N⟩ [a] env) (zk ⟨25,N⟩ [a] env):=by
 by_cases hn:a.Kind=1
 .refine Py (v:=⟨1,0,if(a.N==0)=true then 1 else 0⟩) (e:=0) (by grind[sa,mc,qg]) (by simp only[Ga,naa,if_false,daa,oaa,maa,qg,Yo,bd,Jaa,bab,if_true,jab,Zac]) ?_;rw[kn]
  simp_all[zk,bm,Im]
 grind[sa,mc,zk,bm,pG,qg]
def BE(e:Option (GValue×Int)):Prop:=∃p,e=some p/\(p.2=0->Bd p.1)
theorem vE{n:GNode}{args:List GValue}{env:GEnv}(h:sa n args env=some true) {v:GValue}{e:Int}(hc:Ga n args env=some (v,e)):BE (Nc n args env):=by
 rw[yr h hc];by_cases h0:e=0
 .rw[if_pos h0];exact⟨_,rfl,oL v⟩
 .rw[if_neg h0];exact⟨_,rfl,λh2=>absurd h2 h0⟩
theorem IK{n:GNode}{args:List GValue}{env:GEnv}(h:sa n args env=some false):BE (Nc n args env):=by
 rw[Wy h];exact⟨_,rfl,λh2=>absurd h2 (by decide)⟩
theorem yV{N:Int}{env:GEnv}:BE (Nc ⟨6,N⟩ [] env):=by
 exact vE (v:=⟨6,da .i64 (Faa N 16),Qaa N 16⟩) (e:=0) (by simp[sa]) (by simp[Ga])
theorem zV{N:Int}{env:GEnv}(hf:Jo ⟨7,N⟩ env=true):BE (Nc ⟨7,N⟩ [] env):=by
 simp only[Jo,if_true,decide_eq_true_eq]at hf;have hi:idx env.Inputs N=some (env.Inputs[N.toNat]'(by omega)):=Ij hf.1 hf.2;generalize env.Inputs[N.toNat]'(by omega)=v at hi;by_cases hv:Cn v=true
 .exact vE (v:=v) (e:=0) (by grind[sa,fc]) (by grind[Ga])
 grind[sa,IK,fc]
theorem AR{N:Int}{a:GValue}{env:GEnv}(ha:Bd a):BE (Nc ⟨25,N⟩ [a] env):=by
 by_cases hn:a.Kind=1
 .exact vE (v:=⟨1,0,if(a.N==0)=true then 1 else 0⟩) (e:=0) (by grind[sa,mc,qg]) (by simp only[Ga,naa,if_false,daa,oaa,maa,qg,Yo,bd,Jaa,bab,if_true,jab,Zac])
 grind[sa,mc,IK,qg]
theorem CN{op N:Int}{env:GEnv}(h:1<=op/\op<=5):BE (Nc ⟨op,N⟩ [] env):=by
 refine vE (v:=⟨op,0,N⟩) (e:=0) ?_ ?_
 .have:op=1\/op=2\/op=3\/op=4\/op=5:=by omega
  rcases this with rfl|rfl|rfl|rfl|rfl<;>simp[sa]
 .have:op=1\/op=2\/op=3\/op=4\/op=5:=by omega
  rcases this with rfl|rfl|rfl|rfl|rfl<;>simp[Ga]
theorem YN{op N:Int}{a b:GValue}{env:GEnv}(h:(11<=op/\op<=24)\/(27<=op/\op<=30)):sa ⟨op,N⟩ [a,b] env=Sb op a b:=by
 unfold sa;dsimp only;rw[if_neg (by omega),if_neg (by omega),if_neg (by omega),if_neg (by omega),NT,decide_eq_false (by omega),if_neg (by simp),if_neg (by simp),if_pos (by simp),qg,RE,daa,daa];simp
theorem xG{op N:Int}{a b:GValue}{env:GEnv}(h:(11<=op/\op<=24)\/(27<=op/\op<=30)):Ga ⟨op,N⟩ [a,b] env=qd ⟨op,N⟩ a b:=by
 unfold Ga;dsimp only;have h5:(op==5)=false:=by grind
 rw[if_neg (by omega),if_neg (by omega),if_neg (by omega),if_neg (by omega),h5,daa,if_neg (by simp),if_neg (by omega),if_neg (by omega),if_neg (by omega),if_neg (by omega),if_neg (by omega),NT,decide_eq_false (by omega),if_neg (by simp),if_neg (by omega),if_neg (by omega),if_neg (by simp),if_pos (by simp),qg,RE,daa,daa,Nq]
def nH(a b:GValue):Prop:=a.Kind=b.Kind/\a.Enum=b.Enum
instance (a b:GValue):Decidable (nH a b):=by unfold nH;infer_instance
theorem Gj(a b:GValue):Pf a b=some (decide (nH a b)):=by
 unfold Pf nH;by_cases h1:a.Kind=b.Kind<;>by_cases h2:a.Enum=b.Enum<;>simp[h1,h2]
theorem smO{a b:GValue}{α:Type}{k:Bool->Option α}:(eaa (α:=Bool) (if a.Kind=b.Kind then some (a.Enum !=b.Enum)else some true) k)=k (decide (¬nH a b)):=by
 unfold nH;by_cases h1:a.Kind=b.Kind
 .rw[if_pos h1,daa];congr 1
  grind
 simp_all
theorem Ot.ite{c:Prop} [Decidable c] {n:GNode}{args:List GValue}{env:GEnv}{v:GValue}{e:Int}(hal:sa n args env=some (decide c)) (hco:c->Ga n args env=some (v,e)) (hre:zk n args env=if c then some (if e=0 then Ak v else(⟨0,0,0⟩,e))else some (⟨0,0,0⟩,8)):Ot (Nc n args env) (zk n args env):=by
 by_cases h:c
 .rw[decide_eq_true h]at hal;rw[if_pos h]at hre
  grind[Py]
 .rw[decide_eq_false h]at hal;rw[if_neg h]at hre
  grind[pG]
theorem zG{a b:Prop} [Decidable a] [Decidable b]:(if decide a=true then some (decide b)else some false)=some (decide (a/\b)):=by
 grind
theorem vS{op N:Int}{a b:GValue}{env:GEnv}(hop:op=19\/op=20) (ha:Bd a) (hb:Bd b):Ot (Nc ⟨op,N⟩ [a,b] env) (zk ⟨op,N⟩ [a,b] env):=by
 have hal:sa ⟨op,N⟩ [a,b] env=some (decide (nH a b)):=by
  rw[YN (by omega)];rcases hop with rfl|rfl<;>simp only[Sb,naa,if_true,if_false,daa,Gj,oaa,maa]
 rcases hop with rfl|rfl
 .refine Ot.ite (v:=⟨1,0,if(a.N==b.N)=true then 1 else 0⟩) (e:=0) hal (λ_=>?_) ?_
  .simp_all[qd,xG,bd]
  .simp only[zk,Ih,decide_true,decide_false,Bg,smO,qaa,naa,oaa,if_true,if_false,daa,maa,Im,Nq,kn];simp
 .refine Ot.ite (v:=⟨1,0,if(a.N !=b.N)=true then 1 else 0⟩) (e:=0) hal (λ_=>?_) ?_
  .simp_all[qd,xG,bd]
  .simp only[zk,Ih,decide_true,decide_false,Bg,smO,qaa,naa,oaa,if_true,if_false,daa,maa,Im,Nq,kn];simp
theorem wS{op N:Int}{a b:GValue}{env:GEnv}(hop:op=21\/op=22) (ha:Bd a) (hb:Bd b):Ot (Nc ⟨op,N⟩ [a,b] env) (zk ⟨op,N⟩ [a,b] env):=by
 have hk:(2<=a.Kind/\a.Kind<=5)↔((2<=a.Kind/\a.Kind<=4)\/a.Kind=5):=by omega
 have hal:sa ⟨op,N⟩ [a,b] env=some (decide (nH a b/\2<=a.Kind/\a.Kind<=5)):=by
  rw[YN (by omega)];rcases hop with rfl|rfl<;>simp only[Sb,naa,if_true,if_false,daa,Gj,xq,zG,oaa,maa,hk]
  all_goals grind
 rcases hop with rfl|rfl
 .refine Ot.ite (v:=⟨1,0,if decide (a.N<b.N)=true then 1 else 0⟩) (e:=0) hal (λ_=>?_) ?_
  .simp_all[qd,xG,bd]
  .simp only[zk,Ih,decide_true,decide_false,Bg,smO,pw,qaa,naa,oaa,if_true,if_false,daa,maa,Im,Nq,kn,hk]
   grind
 .refine Ot.ite (v:=⟨1,0,if decide (a.N<=b.N)=true then 1 else 0⟩) (e:=0) hal (λ_=>?_) ?_
  .simp_all[qd,xG,bd]
  .simp only[zk,Ih,decide_true,decide_false,Bg,smO,pw,qaa,naa,oaa,if_true,if_false,daa,maa,Im,Nq,kn,hk]
   grind
theorem BE.ite{c:Prop} [Decidable c] {n:GNode}{args:List GValue}{env:GEnv}{v:GValue}{e:Int}(hal:sa n args env=some (decide c)) (hco:c->Ga n args env=some (v,e)):BE (Nc n args env):=by
 by_cases h:c
 all_goals grind[vE,IK]
theorem yR{op N:Int}{a b:GValue}{env:GEnv}(hop:op=19\/op=20):BE (Nc ⟨op,N⟩ [a,b] env):=by
 have hal:sa ⟨op,N⟩ [a,b] env=some (decide (nH a b)):=by
  rw[YN (by omega)];rcases hop with rfl|rfl<;>simp only[Sb,naa,if_true,if_false,daa,Gj,oaa,maa]
 rcases hop with rfl|rfl
 .refine BE.ite (v:=⟨1,0,if(a.N==b.N)=true then 1 else 0⟩) (e:=0) hal (λ_=>?_)
  simp_all[qd,xG,bd]
 .refine BE.ite (v:=⟨1,0,if(a.N !=b.N)=true then 1 else 0⟩) (e:=0) hal (λ_=>?_)
  simp_all[qd,xG,bd]
theorem zR{op N:Int}{a b:GValue}{env:GEnv}(hop:op=21\/op=22):BE (Nc ⟨op,N⟩ [a,b] env):=by
 have hk:(2<=a.Kind/\a.Kind<=5)↔((2<=a.Kind/\a.Kind<=4)\/a.Kind=5):=by omega
 have hal:sa ⟨op,N⟩ [a,b] env=some (decide (nH a b/\2<=a.Kind/\a.Kind<=5)):=by
  rw[YN (by omega)];rcases hop with rfl|rfl<;>simp only[Sb,naa,if_true,if_false,daa,Gj,xq,zG,oaa,maa,hk]
  all_goals grind
 rcases hop with rfl|rfl
 .refine BE.ite (v:=⟨1,0,if decide (a.N<b.N)=true then 1 else 0⟩) (e:=0) hal (λ_=>?_)
  simp_all[qd,xG,bd]
 .refine BE.ite (v:=⟨1,0,if decide (a.N<=b.N)=true then 1 else 0⟩) (e:=0) hal (λ_=>?_)
  simp_all[qd,xG,bd]
theorem o9(def_ date:Int) (r:GRule):Ac r def_ date=some (Mt def_ date r):=by
 grind[Ac,Mt,Up]
theorem bx{s:GScope}(hs:s.Rules.length<=1048576) (def_ date:Int):ef s def_ date=some (Fc s.Rules (Mt def_ date) s.Rules.length).1:=by
 grind[ef,No,o9]
def oD(s:GScope) (l:List Int):List (List GNode):=(l.map λi=>((s.Rules[i.toNat]?).map (·.Guard)).getD []).filter λg=>decide (0<g.length)
theorem qI{s:GScope}{l:List Int}(hl:l.length<=1048576) (hm:∀x∈l,0<=x/\x<(s.Rules.length:Int)) {step:List (List GNode)×Int->Option (Ex (List (List GNode)×Int) (List (List GNode)) Unit)}
 (hstep:step=Ie s l):fa step (([]:List (List GNode)),0)=some (.inl (oD s l)):=by
 subst hstep;have hlen:∀k,(oD s (l.take k)).length<=k:=λk=>by
  grind[oD]
 refine Xc (λi=>(oD s (l.take i),(i:Int))) l.length _ (λi hi=>?_) (by grind[Ie]) rfl;have hx:=hm _ (laa hi);have:=hlen i;have ht:oD s (l.take (i+1))=oD s (l.take i)++(if 0<(s.Rules[l[i].toNat]'(by omega)).Guard.length then [(s.Rules[l[i].toNat]'(by omega)).Guard]else []):=by
  unfold oD;rw[Raa,faa hi,Eab,nab,rab,List.map_singleton,faa (l:=s.Rules) (by omega)]
  grind
 unfold Ie;simp only;rw[if_pos (by omega),Aa hi,daa,Ij hx.1 hx.2,daa,ya (by omega),ht];by_cases h0:0<(s.Rules[l[i].toNat]'(by omega)).Guard.length
 .rw[if_pos (by omega),if_pos h0,Hf (by grind)];rfl
 simp_all
noncomputable def Ko(s:GScope) (def_ date:Int):List (List GNode):=oD s (Fc s.Rules (Mt def_ date) s.Rules.length).1
theorem Sw{s:GScope}(hs:s.Rules.length<=1048576) (def_ date:Int):oh s def_ date=some (Ko s def_ date):=by
 unfold oh;have hm:=Jl (rules:=s.Rules) (q:=Mt def_ date) s.Rules.length;have hl:=(Il (rules:=s.Rules) (q:=Mt def_ date) s.Rules.length).2.1;rw[bx hs,daa,qI (by omega) (λx hx=>⟨(hm x hx).1,(hm x hx).2.1⟩) rfl];rfl
theorem ZD{s:GScope}(hs:s.Rules.length<=1048576) (def_ date:Int):Co s def_ date=some (Ko s def_ date):=by
 unfold Co;have hm:=Jl (rules:=s.Rules) (q:=Mt def_ date) s.Rules.length;have hl:=(Il (rules:=s.Rules) (q:=Mt def_ date) s.Rules.length).2.1;rw[Fq hs,daa,qI (s:=s) (l:=(Fc s.Rules (Mt def_ date) s.Rules.length).1) (step:=Hq s _) (by omega) (λx hx=>⟨(hm x hx).1,(hm x hx).2.1⟩) rfl];rfl
theorem pI{s:GScope}{def_ date:Int}{g:List GNode}(h:g∈Ko s def_ date):∃r∈s.Rules,r.Guard=g:=by
 unfold Ko oD at h
 grind
theorem oz(s:GScope) (def_ date:Int):(Ko s def_ date).length<=s.Rules.length:=by
 grind[Ko,oD,Il]
theorem wG{l:List GEnum}(hl:l.length<=1048576) (hm:∀x∈l,x.Members.length<=1099511627776):il l=some l:=by
 unfold il;have h1:fa (Ah l) (([]:List GEnum),0)=some (.inl l):=by
  refine Xc (λi=>(l.take i,(i:Int))) l.length _ (λi hi=>?_) (by grind[Ah]) rfl;unfold Ah Md;simp only;rw[if_pos (by omega),Aa hi,daa,if_pos (hm _ (laa hi)),daa,Hf (by grind),daa,ya (by omega),Raa,faa hi];rfl
 simp_all
theorem HE{l:List GTable}(hl:l.length<=1048576) (hm:∀x∈l,x.Rows.length<=1099511627776):Jj l=some l:=by
 unfold Jj;have h1:fa (vg l) (([]:List GTable),0)=some (.inl l):=by
  refine Xc (λi=>(l.take i,(i:Int))) l.length _ (λi hi=>?_) (by grind[vg]) rfl;unfold vg jd;simp only;rw[if_pos (by omega),Aa hi,daa,if_pos (hm _ (laa hi)),daa,Hf (by grind),daa,ya (by omega),Raa,faa hi];rfl
 simp_all
theorem jV(l:GLaw) (s:GScope):(Ds l s).Enums=l.Enums/\(Ds l s).Tables=l.Tables:=by
 unfold Ds;grind
theorem QB{l:GLaw}(h:LawOk l) (hm:∀x∈l.Enums,x.Members.length<=1099511627776) (hr:∀x∈l.Tables,x.Rows.length<=1099511627776) {i:Nat}(hi:i<l.Scopes.length):Em l (i:Int)=some (Ds l l.Scopes[i]):=by
 unfold Em;obtain⟨e1,e2⟩:=jV l l.Scopes[i];rw[if_pos (by omega),daa,if_neg (by simp_all),qk h hi,daa,e1,wG h.ne hm,daa,e2,HE h.nt hr,daa,←e1,←e2]
structure SkInv (i:Nat) (st sk:List Int):Prop where
 len:st.length=i
 pos:0<i->sk≠[]
 zero:i=0->sk=[]
 last:∀k,k+1=sk.length->st[i-1]?=sk[k]?
 chain:∀j,j+1<sk.length->∃a b:Nat,sk[j]?=some (a:Int)/\sk[j+1]?=some (b:Int)/\a<b/\st[b-1]?=some (a:Int)
 bound:∀j,j<sk.length->∃a:Nat,sk[j]?=some (a:Int)/\a<i
theorem CK{e:List GNode}(h:Wst e):∀i,i<=e.length->SkInv i (Be e i).1 (Be e i).2
 |0,_=>by
  refine⟨rfl,by omega,λ_=>rfl,?_,?_,?_⟩
  all_goals grind[Be]
 |i+1,hi=>by
  have ih:=CK h i (by omega);obtain⟨a1,a2,a3⟩:=h.ar (i:=i) (by omega);have hst:Be e (i+1)=((Be e i).1++[if 0<Pb e i then((Be e i).2[(Be e i).2.length-Pb e i]?).getD 0 else(i:Int)],(Be e i).2.take ((Be e i).2.length-Pb e i)++[if 0<Pb e i then((Be e i).2[(Be e i).2.length-Pb e i]?).getD 0 else(i:Int)]):=rfl;rw[hst];generalize (Be e i).1=st at ih⊢;generalize (Be e i).2=sk at ih a2⊢;generalize Pb e i=a at a2⊢;obtain⟨f,hf,hfi,hfl⟩:∃f:Nat,(if 0<a then(sk[sk.length-a]?).getD 0 else(i:Int))=(f:Int)/\f<=i/\(∀j,j+1=sk.length-a->∃b:Nat,sk[j]?=some (b:Int)/\b<f/\st[f-1]?=some (b:Int)):=by
   by_cases ha:0<a
   .obtain⟨f,h1,h2⟩:=ih.bound (sk.length-a) (by omega);refine⟨f,by simp_all,by omega,λj hj=>?_⟩;obtain⟨x,y,k1,k2,k3,k4⟩:=ih.chain j (by omega)
    grind
   .refine⟨i,by omega,by omega,λj hj=>?_⟩;obtain⟨x,k1,k2⟩:=ih.bound j (by omega);refine⟨x,k1,k2,?_⟩;rw[←k1];exact ih.last j (by omega)
  rw[hf];have hlen:(sk.take (sk.length-a)).length=sk.length-a:=by simp
  refine⟨by simp[ih.len],λ_=>by simp,λh=>by omega,?_,?_,?_⟩
  .intro k hk;simp only[Oaa,hlen,Yaa]at hk;rw[sad,Mab (by rw[ih.len];omega),ih.len,Qab,Mab (by omega),hlen,show k-(sk.length-a)=0 by omega]
  .intro j hj;simp only[Oaa,hlen,Yaa]at hj;by_cases hj2:j+1<sk.length-a
   .obtain⟨x,y,k1,k2,k3,k4⟩:=ih.chain j (by omega);obtain⟨y',q1,q2⟩:=ih.bound (j+1) (by omega);rw[k2]at q1;injection q1 with q1;refine⟨x,y,?_,?_,k3,?_⟩
    all_goals grind
   .obtain⟨x,k1,k2,k3⟩:=hfl j (by omega);refine⟨x,f,?_,?_,k2,?_⟩
    all_goals grind
  .intro j hj;simp only[Oaa,hlen,Yaa]at hj;by_cases hj2:j<sk.length-a
   .obtain⟨x,k1,k2⟩:=ih.bound j (by omega)
    grind
   grind
theorem pH{e:List GNode}:∀{n i k:Nat},i<=n->k<i->(Be e n).1[k]?=(Be e i).1[k]?
 |0,i,k,h,hk=>by omega
 |n+1,i,k,h,hk=>by
  by_cases hin:i=n+1
  .simp_all
  .have:(Be e (n+1)).1=(Be e n).1++[if 0<(gb (ua e n).Op).toNat then((Be e n).2[(Be e n).2.length-(gb (ua e n).Op).toNat]?).getD 0 else(n:Int)]:=rfl;rw[this,List.getElem?_append_left (by grind[Zz])];exact pH (by omega) hk
def Lf(e:List GNode) (i j:Nat):Nat:=if j+1=Pb e i then i-1 else(((Be e i).2[(Be e i).2.length-Pb e i+j+1]?).getD 0).toNat-1
def qu(e:List GNode) (i:Nat):List Int:=(yaa (Pb e i)).map λj=>(Lf e i j:Int)
theorem Mf{e:List GNode}(h:Wst e) {i:Nat}(hi:i<e.length) {j:Nat}(hj:j<Pb e i):Lf e i j<i/\∃s:Nat,(Be e e.length).1[Lf e i j]?=some (s:Int)/\(∀j',j'+1=j->Lf e i j'+1=s):=by
 have ih:=CK h i (by omega);obtain⟨a1,a2,a3⟩:=h.ar hi;have hi0:0<i:=by
  rcases Nat.eq_zero_or_pos i with h0|h0
  .have:=ih.zero h0;simp_all
  omega
 have hlt:Lf e i j<i/\∃s:Nat,(Be e i).1[Lf e i j]?=some (s:Int)/\(Be e i).2[(Be e i).2.length-Pb e i+j]?=some (s:Int):=by
  unfold Lf;generalize (Be e i).1=st at ih⊢;generalize (Be e i).2=sk at ih a2⊢;generalize Pb e i=a at a2 hj⊢;by_cases hja:j+1=a
  .rw[if_pos hja];obtain⟨x,k1,k2⟩:=ih.bound (sk.length-a+j) (by omega);exact⟨by omega,x,by rw[ih.last (sk.length-a+j) (by omega)];omega,k1⟩
  .rw[if_neg hja];obtain⟨x,y,k1,k2,k3,k4⟩:=ih.chain (sk.length-a+j) (by omega);obtain⟨y',q1,q2⟩:=ih.bound (sk.length-a+j+1) (by omega)
   grind
 obtain⟨h1,s,h2,h3⟩:=hlt;refine⟨h1,s,by grind[pH],λj' hj'=>?_⟩;subst hj';obtain⟨x,y,k1,k2,k3,k4⟩:=ih.chain ((Be e i).2.length-Pb e i+j') (by omega)
 grind[Lf]
theorem qE{e:List GNode}(h:Wst e):∀{n k s:Nat},n<=e.length->(Be e n).1[k]?=some (s:Int)->s<=k
 |0,k,s,_,hs=>by grind[Be]
 |n+1,k,s,hn,hs=>by
  have hk:k<n+1:=by
   grind[Zz]
  by_cases hkn:k=n
  .subst hkn;have ih:=CK h (k+1) hn;have hne:=ih.pos (by omega);obtain⟨q,hq⟩:∃q,q+1=(Be e (k+1)).2.length:=⟨(Be e (k+1)).2.length-1,by grind[List.length_pos_iff]⟩;have h1:=ih.last q hq;rw[sad,hs]at h1;obtain⟨x,k1,k2⟩:=ih.bound q (by omega)
   grind
  .rw[pH (i:=n) (by omega) (by omega)]at hs;exact qE h (by omega) hs
theorem vp{e:List GNode}(h:Wst e):tm e=((Be e e.length).1,0,0):=by
 have:=h.pos;have:=h.le;have:=h.one;unfold tm;rw[if_neg (by omega),if_neg (by omega),Ob.2 h.err]
 simp_all
theorem JI{e:List GNode}(h:Wst e) {i:Nat}(hi:i<e.length) {step:List Int×Int×Int->Option (Ex (List Int×Int×Int) (List Int) Unit)}
 (hs:∀a b c,step (a,b,c)=if 0<=c then(idx a c).bind λ_=>(put a c b).bind λx9=>(idx (Be e e.length).1 b).bind λx10=>some (.go (x9,da .i64 (x10-1),da .i64 (c-1)))else some (.brk a)) :
 fa step (jaa (Pb e i) 0,(i:Int)-1,(Pb e i:Int)-1)=some (.inl (qu e i)):=by
 have hle:=h.le;obtain⟨a1,a2,a3⟩:=h.ar hi;have ha3:Pb e i<=12:=by have:=En (e:=e) (i:=i) λj hj=>h.err j (by omega);omega
 refine Xc (λt=>(jaa (Pb e i-t) 0++(qu e i).drop (Pb e i-t),(if t=0 then(i:Int)-1 else if t=Pb e i then(((Be e e.length).1[Lf e i 0]?).getD 0)-1 else(Lf e i (Pb e i-t-1):Int)),(Pb e i:Int)-1-t)) (Pb e i) _ (λt ht=>?_) ?_ ?_
 .obtain⟨j,hj⟩:∃j,Pb e i=t+j+1:=⟨Pb e i-t-1,by omega⟩;obtain⟨o1,s,o2,o3⟩:=Mf h hi (j:=j) (by omega);rw[hs];have hlast:(if t=0 then(i:Int)-1 else if t=Pb e i then(((Be e e.length).1[Lf e i 0]?).getD 0)-1 else(Lf e i (Pb e i-t-1):Int))=(Lf e i j:Int):=by
   by_cases t0:t=0
   .grind[Lf]
   grind
  rw[hlast,if_pos (by omega),show(Pb e i:Int)-1-t=((j:Nat):Int) by omega];have hL:(qu e i).length=Pb e i:=by simp[qu]
  rw[Aa (i:=j) (by grind),daa,ry (by grind),daa];rw[tI,o2,daa];have hset:(jaa (Pb e i-t) 0++(qu e i).drop (Pb e i-t)).set j (Lf e i j:Int)=jaa (Pb e i-(t+1)) 0++(qu e i).drop (Pb e i-(t+1)):=by
   rw[show Pb e i-t=j+1 by omega,show Pb e i-(t+1)=j by omega,Sab,kab,iac _ _ (by simp),Xaa,Qab]
   grind[qu,Taa]
  have hlt:Lf e i j<(Be e e.length).1.length:=by grind
  have hs:(s:Int)-1=(if t+1=0 then(i:Int)-1 else if t+1=Pb e i then(((Be e e.length).1[Lf e i 0]?).getD 0)-1 else(Lf e i (Pb e i-(t+1)-1):Int)):=by
   rw[if_neg (by omega)];by_cases j0:j=0
   all_goals grind
  have hsb:(0:Int)<=s/\(s:Int)<=100:=by
   have:=qE h (saa _) o2;omega
  rw[hset,wid (n:=(s:Int)-1) (by omega) (by omega),wid (n:=((j:Nat):Int)-1) (by omega) (by omega),hs];congr 4;omega
 .grind
 simp_all[qu]
theorem gp{e:List GNode}(h:Wst e) {i:Nat}(hi:i<e.length):Qi e (i:Int)=some (qu e i):=by
 have hle:=h.le;obtain⟨a1,a2,a3⟩:=h.ar hi;have ha3:Pb e i<=12:=by have:=En (e:=e) (i:=i) λj hj=>h.err j (by omega);omega
 have haI:gb (ua e i).Op=(Pb e i:Int):=by grind[Pb]
 unfold Qi;rw[qo,vp h,daa];dsimp only;have hcond:(if(0:Int)=0 then if¬(i:Int)<0 then some (decide ((e.length:Int)<=(i:Int)))else some true else some true)=some false:=by
  simp_all
 rw[hcond];simp only[daa,maa,if_false];rw[Aa hi,daa,Ld hi,Ip,daa,haI,GA (by omega) (by omega),daa,wid (n:=(i:Int)-1) (by omega) (by omega),wid (n:=(Pb e i:Int)-1) (by omega) (by omega),JI h hi λa b c=>by grind[ko]];rfl
theorem NB{e:List GNode}(h:Wst e) {i:Nat}(hi:i<e.length):Cm e (i:Int)=some (qu e i):=by
 have hle:=h.le;obtain⟨a1,a2,a3⟩:=h.ar hi;have ha3:Pb e i<=12:=by have:=En (e:=e) (i:=i) λj hj=>h.err j (by omega);omega
 have haI:gb (ua e i).Op=(Pb e i:Int):=by grind[Pb]
 unfold Cm sh;rw[Fi,vp h,daa,daa];dsimp only;rw[if_pos rfl,if_pos (by omega),daa,if_neg (by simp_all),Aa hi,daa,Ld hi,Jf,daa,haI,GA (by omega) (by omega),daa,Xaa,wid (n:=(i:Int)-1) (by omega) (by omega),wid (n:=(Pb e i:Int)-1) (by omega) (by omega)];have hl:fa (Di ((Be e e.length).1,0)) (jaa (Pb e i) 0,(i:Int)-1,(Pb e i:Int)-1)=some (.inl (qu e i)):=by
  refine Xc (λt=>(jaa (Pb e i-t) 0++(qu e i).drop (Pb e i-t),(if t=0 then(i:Int)-1 else if t=Pb e i then(((Be e e.length).1[Lf e i 0]?).getD 0)-1 else(Lf e i (Pb e i-t-1):Int)),(Pb e i:Int)-1-t)) (Pb e i) _ (λt ht=>?_) ?_ ?_
  .obtain⟨j,hj⟩:∃j,Pb e i=t+j+1:=⟨Pb e i-t-1,by omega⟩;obtain⟨o1,s,o2,o3⟩:=Mf h hi (j:=j) (by omega);unfold Di;dsimp only;have hlast:(if t=0 then(i:Int)-1 else if t=Pb e i then(((Be e e.length).1[Lf e i 0]?).getD 0)-1 else(Lf e i (Pb e i-t-1):Int))=(Lf e i j:Int):=by
    by_cases t0:t=0
    .grind[Lf]
    grind
   rw[hlast,if_pos (by omega),show(Pb e i:Int)-1-t=((j:Nat):Int) by omega];have hL:(qu e i).length=Pb e i:=by simp[qu]
   rw[Aa (i:=j) (by grind),daa,ry (by grind),daa];rw[tI,o2,daa];have hset:(jaa (Pb e i-t) 0++(qu e i).drop (Pb e i-t)).set j (Lf e i j:Int)=jaa (Pb e i-(t+1)) 0++(qu e i).drop (Pb e i-(t+1)):=by
    rw[show Pb e i-t=j+1 by omega,show Pb e i-(t+1)=j by omega,Sab,kab,iac _ _ (by simp),Xaa,Qab]
    grind[qu,Taa]
   have hlt:Lf e i j<(Be e e.length).1.length:=by grind
   have hs:(s:Int)-1=(if t+1=0 then(i:Int)-1 else if t+1=Pb e i then(((Be e e.length).1[Lf e i 0]?).getD 0)-1 else(Lf e i (Pb e i-(t+1)-1):Int)):=by
    rw[if_neg (by omega)];by_cases j0:j=0
    all_goals grind
   have hsb:(0:Int)<=s/\(s:Int)<=100:=by
    have:=qE h (saa _) o2;omega
   rw[hset,wid (n:=(s:Int)-1) (by omega) (by omega),wid (n:=((j:Nat):Int)-1) (by omega) (by omega),hs];congr 4;omega
  .grind[Di]
  simp[qu]
 simp_all
def Cz(op:Int):Bool:=decide (2<=op)&&decide (op<=6)
def Rx(op:Int):Bool:=decide (19<=op)&&decide (op<=22)
theorem Gq(op:Int):si op=some (Cz op):=by grind[si,Cz]
theorem Vr(op:Int):Yf op=some (Rx op):=by grind[Yf,Rx]
theorem Kn(n:GNode):nf n=some (Cz n.Op):=by
 grind[nf,Cz]
theorem Sp(n:GNode):pe n=some (Rx n.Op):=by
 grind[pe,Rx]
def sx(e:List GNode) (i:Nat):Option (Int×GNode):=
 if Pb e i=2 then
  (
   if(ua e (Lf e i 0)).Op=7/\Cz (ua e (Lf e i 1)).Op=true then some ((ua e (Lf e i 0)).N,ua e (Lf e i 1))
   else if(ua e (Lf e i 1)).Op=7/\Cz (ua e (Lf e i 0)).Op=true then some ((ua e (Lf e i 1)).N,ua e (Lf e i 0))else none)
 else none
def iR:Option (Int×GNode)->Int×GNode×Bool
 |some v=>(v.1,v.2,true)
 |none=>(0,⟨0,0⟩,false)
def mH:Option (Int×GNode)->GNode×GNode×Bool
 |some v=>(⟨7,v.1⟩,v.2,true)
 |none=>(⟨0,0⟩,⟨0,0⟩,false)
theorem p9{e:List GNode}{i:Nat}(h2:Pb e i=2):qu e i=[(Lf e i 0:Int),(Lf e i 1:Int)]:=by
 unfold qu;rw[h2];rfl
theorem Lv{e:List GNode}(h:Wst e) {i:Nat}(hi:i<e.length):Dc e (i:Int)=some (iR (sx e i)):=by
 unfold Dc sx;rw[NB h hi,daa];by_cases h2:Pb e i=2
 .have o1:=(Mf h hi (j:=0) (by omega)).1;have o2:=(Mf h hi (j:=1) (by omega)).1;rw[if_pos h2,p9 h2,if_neg (by simp),qg,RE,daa,Aa (by omega),daa,Ld (by omega),daa];rw[Aa (by omega),daa,Ld (by omega),Kn,Kn]
  grind[iR]
 .have hL:(qu e i).length=Pb e i:=by simp[qu]
  rw[if_neg h2,if_pos (by omega)];rfl
theorem tw{e:List GNode}(h:Wst e) {i:Nat}(hi:i<e.length):km e (i:Int)=some (mH (if Rx (ua e i).Op=true then sx e i else none)):=by
 unfold km sx;rw[gp h hi,daa,Aa hi,daa,Ld hi,Vr,daa];have hL:(qu e i).length=Pb e i:=by simp[qu]
 cases Rx (ua e i).Op
 .rfl
 simp only[if_true,daa];by_cases h2:Pb e i=2
 .have o1:=(Mf h hi (j:=0) (by omega)).1;have o2:=(Mf h hi (j:=1) (by omega)).1;rw[if_pos h2,if_neg (by simp_all),p9 h2,qg,RE,daa,Aa (by omega),daa,Ld (by omega),daa];rw[Aa (by omega),daa,Ld (by omega),Gq,Gq];generalize ua e (Lf e i 0)=a;generalize ua e (Lf e i 1)=b;obtain⟨ao,an⟩:=a;obtain⟨bo,bn⟩:=b;by_cases ha:ao=7
  .subst ha;cases hb:Cz bo
   .by_cases hb7:bo=7
    .subst hb7;have:Cz 7=false:=rfl
     grind[mH]
    grind[mH]
   grind[mH]
  grind[mH]
 .rw[if_neg h2,if_pos (by grind)];rfl
def Un(e:List GNode) (i:Nat):Bool:=
 if Rx (ua e i).Op=true then(sx e i).isSome else(ua e i).Op==1 || (ua e i).Op==23 || (ua e i).Op==24 || (ua e i).Op==25 || (ua e i).Op==7 || Cz (ua e i).Op
noncomputable def Yk(e:List GNode) (s:GSignature):Bool:=
 decide ((Gn e s).2.2=0)&&((Gn e s).1.Kind==1&&(Gn e s).1.Enum==0)&&(ff (λi=>if Un e i=true then none else some false) e.length).isNone
theorem yE{e:List GNode}{s:GSignature}(h:(Gn e s).2.2=0):Wst e:=by
 grind[Gn,uH]
theorem ZI{o:Option (Int×GNode)}:(iR o).2.2=o.isSome/\(mH o).2.2=o.isSome:=by cases o<;>exact⟨rfl,rfl⟩
theorem kI{f:Nat->Bool}{n:Nat}:(match (Mb () (ff (λi=>if f i=true then none else some false) n):Unit⊕Bool)with|.inr v=>some v|.inl _=>some true)=some (ff (λi=>if f i=true then none else some false) n).isNone:=by
 cases h:ff (λi=>if f i=true then none else some false) n with
 |none=>rfl
 |some v=>
  obtain⟨k,-,h2,-⟩:=Sa.1 h;split at h2
  .grind
  .injection h2 with h2;subst h2;rfl
theorem DC{e:List GNode}(hN:∀n∈e,wb n) (s:GSignature):Ul e s=some (Yk e s):=by
 unfold Ul Yk;rw[Cx hN,daa];by_cases h0:(Gn e s).2.2=0
 .have hw:=yE h0;have hle:=hw.le;rw[if_pos h0,daa,decide_eq_true h0];cases (Gn e s).1.Kind==1&&(Gn e s).1.Enum==0
  .rfl
  .simp only[Oab,maa,if_false,Zaa];have hl:fa (Ej e) 0=some (Mb () (ff (λi=>if Un e i=true then none else some false) e.length)):=
    Lb (λi=>(i:Int)) _ _ _ (λi hi _=>by
     unfold Ej Un;rw[if_pos (by omega),Aa hi,daa,Ld hi,Kn,Sp,Lv hw hi,ya (by omega)];simp only[daa,ZI.1];generalize (sx e i).isSome=c
     grind[Rx,pD,Cz]) (λ_=>by grind[Ej])
   rw[hl];exact kI
 simp_all
theorem YD{e:List GNode}(hN:∀n∈e,wb n) (s:GSignature):im e s=some (Yk e s):=by
 unfold im Yk;rw[nw hN,daa];by_cases h0:(Gn e s).2.2=0
 .have hw:=yE h0;have hle:=hw.le;rw[if_pos h0,daa,decide_eq_true h0];cases (Gn e s).1.Kind==1&&(Gn e s).1.Enum==0
  .rfl
  .simp only[Oab,maa,if_false,Zaa];have hl:fa (Vj e) 0=some (Mb () (ff (λi=>if Un e i=true then none else some false) e.length)):=
    Lb (λi=>(i:Int)) _ _ _ (λi hi _=>by
     unfold Vj Un;rw[if_pos (by omega),Aa hi,daa,Ld hi,Vr,Gq,tw hw hi,ya (by omega)];simp only[daa,ZI.2]
     grind[pD]) (λ_=>by grind[Vj])
   rw[hl];exact kI
 simp_all
theorem Xs{l:List Int}{p:Int->Bool}{i:Nat}(hi:i<l.length):(l.take (i+1)).filter p=(l.take i).filter p++(if p l[i]=true then [l[i]]else []):=by
 rw[Raa,faa hi,Eab,rab]
 grind
theorem Ru{l:List Int}{p:Int->Bool}{i:Nat}:((l.take i).filter p).length<=i:=by
 grind
theorem dK{l:List Int}{n:Int}(h:vH l):l.filter (λx=>decide (x<n))++[n]++l.filter (λx=>decide (n<x))=Ii l n:=by
 refine sz ?_ (Xv h) λx=>?_
 .rw[kab];refine Dac.2 ⟨h.filter _,?_,λa ha b hb=>?_⟩
  all_goals grind
 .rw[nu]
  grind
theorem Nr{l:List Int}{n:Int}(h:vH l) (hl:l.length<=1099511627776):rj l n=some (Ii l n):=by
 unfold rj;have h1:fa (Mj l n) (([]:List Int),0)=some (.inl (l.filter λx=>decide (x<n))):=by
  refine Xc (λi=>((l.take i).filter λx=>decide (x<n),(i:Int))) l.length _ (λi hi=>?_) (by grind[Mj]) rfl;have:=Ru (l:=l) (p:=λx=>decide (x<n)) (i:=i);unfold Mj;simp only;rw[if_pos (by omega),Aa hi,daa,ya (by omega),Xs hi];by_cases hx:l[i]<n
  .rw[if_pos hx,if_pos (by simp_all),Hf (by grind)];rfl
  grind
 rw[h1,daa];simp only;have hlen:=gab (λx=>decide (x<n)) l;rw[Hf (by grind),daa];have h2:fa (Lj l n) (l.filter (λx=>decide (x<n))++[n],0)=some (.inl (l.filter (λx=>decide (x<n))++[n]++l.filter λx=>decide (n<x))):=by
  refine Xc (λi=>(l.filter (λx=>decide (x<n))++[n]++(l.take i).filter λx=>decide (n<x),(i:Int))) l.length _ (λi hi=>?_) (by grind[Lj]) (by simp);have:=Ru (l:=l) (p:=λx=>decide (n<x)) (i:=i);unfold Lj;simp only;rw[if_pos (by omega),Aa hi,daa,ya (by omega),Xs hi];by_cases hx:n<l[i]
  .rw[if_pos hx,if_pos (by simp_all),Hf (by grind)];simp
  grind
 grind[dK]
def cutAt(e:List GNode) (Pl:Int) (i:Nat):List Int:=
 if Rx (ua e i).Op=true then
  match sx e i with
  |some v=>if v.1=Pl/\¬v.2.Op=6 then(if v.2.N<9223372036854775807 then [v.2.N,v.2.N+1]else [v.2.N])else []
  |none=>[]
 else []
theorem nM(e:List GNode) (Pl:Int) (i:Nat):(cutAt e Pl i).length<=2:=by
 grind[cutAt]
def xm(e:List GNode) (Pl:Int):Nat->List Int
 |0=>[]
 |k+1=>xm e Pl k++cutAt e Pl k
theorem Hu(e:List GNode) (Pl:Int):∀k,(xm e Pl k).length<=2*k
 |0=>by simp[xm]
 |k+1=>by
  have:=Hu e Pl k
  grind[xm,nM]
def De(gs:List (List GNode)) (Pl:Int):Nat->List Int
 |0=>[]
 |k+1=>De gs Pl k++(match gs[k]? with|some e=>xm e Pl e.length|none=>[])
theorem Tp{gs:List (List GNode)}(hw:∀g∈gs,Wst g) (Pl:Int):∀k,(De gs Pl k).length<=96*k
 |0=>by simp[De]
 |k+1=>by
  have:=Tp hw Pl k;simp only[De,Oaa];split
  .rename_i e he;have h1:=Hu e Pl e.length;have h2:=(hw e (Eaa he)).le;omega
  grind
theorem jR{e:List GNode}(hN:∀n∈e,wb n) (hw:Wst e) {i:Nat}(hi:i<e.length) {v:Int×GNode}(hv:sx e i=some v):wb v.2:=by
 unfold sx at hv;split at hv
 .rename_i h2;have o1:=(Mf hw hi (j:=0) (by omega)).1;have o2:=(Mf hw hi (j:=1) (by omega)).1
  grind[TT]
 simp_all
theorem Sy{gs:List (List GNode)}(hg:gs.length<=1048576) (hw:∀g∈gs,Wst g) (hN:∀g∈gs,∀n∈g,wb n) (Pl:Int):Dj gs Pl=some (Sd (De gs Pl gs.length)):=by
 unfold Dj;have hl:fa (cg gs Pl) (([]:List Int),0)=some (.inl (De gs Pl gs.length)):=by
  refine Xc (λk=>(De gs Pl k,(k:Int))) gs.length _ (λk hk=>?_) (by grind[cg]) rfl;have hlen:=Tp hw Pl k;have hwk:=hw _ (laa hk);have hNk:=hN _ (laa hk);have hle:=hwk.le;unfold cg sh;simp only[De,faa hk];rw[if_pos (by omega),Aa hk,daa,ya (by omega)];generalize gs[k]=e at hwk hNk hle⊢;generalize De gs Pl k=a at hlen⊢;rw[Fi,vp hwk,daa,daa,if_neg (by simp)];have h2:fa (bg Pl e) (a,0)=some (.inl (a++xm e Pl e.length)):=by
   refine Xc (λi=>(a++xm e Pl i,(i:Int))) e.length _ (λi hi=>?_) (by grind[bg]) (by simp[xm]);have h3:=Hu e Pl i;have hsim:=λv (hv:sx e i=some v)=>jR hNk hwk hi hv;unfold bg;simp only[xm,cutAt];rw[if_pos (by omega),Aa hi,daa,Ld hi,Sp,daa,Lv hwk hi,daa,ya (by omega)];cases Rx (ua e i).Op
   .simp
   simp only[waa,if_false,if_true]
   cases hv:sx e i with
   |none=>simp[iR]
   |some v=>
    have hok:=hsim v hv;unfold wb at hok;rw[show iR (some v)=(v.1,v.2,true)from rfl,if_pos rfl];dsimp only;by_cases hi2:v.1=Pl
    .by_cases h6:v.2.Op=6
     .simp_all
     .rw[if_pos hi2,if_pos ⟨hi2,h6⟩,daa,if_neg (by simp_all),Hf (by grind),daa];by_cases hm:v.2.N<9223372036854775807
      .rw[if_pos hm,if_pos hm,wid (n:=v.2.N+1) (by omega) (by omega),Hf (by grind)];simp
      grind
    simp_all
  simp_all
 have hlen:=Tp hw Pl gs.length;rw[hl,daa];simp only[fb,Ma];rw[if_pos (by omega),daa,if_pos (by simp;omega),daa,Ap]
theorem GF{a b:List Int}:Sd (a++b)=b.foldl Ii (Sd a):=by grind[Sd]
theorem Nz{gs:List (List GNode)}(hg:gs.length<=1048576) (hw:∀g∈gs,Wst g) (hN:∀g∈gs,∀n∈g,wb n) (Pl:Int):Uj gs Pl=some (Sd (De gs Pl gs.length)):=by
 unfold Uj;have hl:fa (Jg gs Pl) (([]:List Int),0)=some (.inl (Sd (De gs Pl gs.length))):=by
  refine Xc (λk=>(Sd (De gs Pl k),(k:Int))) gs.length _ (λk hk=>?_) (by grind[Jg]) rfl;have hlen:=Tp hw Pl k;have hwk:=hw _ (laa hk);have hNk:=hN _ (laa hk);have hle:=hwk.le;have h2:fa (Ig gs Pl (k:Int)) (Sd (De gs Pl k),0)=some (.inl (Sd (De gs Pl k++xm gs[k] Pl gs[k].length))):=by
   refine Xc (λi=>(Sd (De gs Pl k++xm gs[k] Pl i),(i:Int))) gs[k].length _ (λi hi=>?_) ?_ (by simp[xm])
   .have h3:=Hu gs[k] Pl i;have hsim:=λv (hv:sx gs[k] i=some v)=>jR hNk hwk hi hv;unfold Ig;simp only;rw[Aa hk,daa];simp only[xm,cutAt];generalize gs[k]=e at hwk hNk hle hi h3 hsim⊢;rw[if_pos (by omega),tw hwk hi,daa,ya (by omega)];have hd:=Wl (De gs Pl k++xm e Pl i);have hdl:(Sd (De gs Pl k++xm e Pl i)).length<=1099511627776-10:=by
     grind
    rw[←kab];generalize De gs Pl k++xm e Pl i=a at hd hdl⊢;cases Rx (ua e i).Op
    .simp[mH]
    simp only[waa,if_false,if_true]
    cases hv:sx e i with
    |none=>simp[mH]
    |some v=>
     have hok:=hsim v hv;unfold wb at hok;rw[show mH (some v)=(⟨7,v.1⟩,v.2,true)from rfl,if_pos rfl];dsimp only;by_cases hi2:v.1=Pl
     .by_cases h6:v.2.Op=6
      .simp_all
      .have hl1:=Bz (n:=v.2.N) (l:=Sd a);rw[if_pos hi2,if_pos ⟨hi2,h6⟩,daa,if_neg (by simp_all),Nr hd.1 (by omega),daa];by_cases hm:v.2.N<9223372036854775807
       .rw[wid (n:=v.2.N+1) (by omega) (by omega),if_pos (by omega),if_pos hm,Nr (Xv hd.1) (by omega),GF];rfl
       .have hmax:v.2.N=9223372036854775807:=by omega
        have hw:da .i64 (v.2.N+1) = -9223372036854775808:=by rw[hmax];rfl
        simp_all[GF]
     simp_all
   simp_all[Ig,Aa]
  unfold Jg;simp only[De,faa hk];rw[if_pos (by omega),h2,daa,ya (by omega)]
 simp_all
def zE(lo:Int):Nat->List Int
 |0=>[]
 |k+1=>zE lo k++[lo+k]
theorem Bu(lo:Int):∀k,(zE lo k).length=k
 |0=>rfl
 |k+1=>by simp[zE,Bu lo k]
theorem UF{p:Int×Int}(h:-1152921504606846976<=p.1/\p.2<=1152921504606846976) (hs:p.2-p.1<=1099511627776):fa (Vc p) (([]:List Int),p.1)=some (.inl (zE p.1 (p.2-p.1+1).toNat)):=by
 refine Xc (λk=>(zE p.1 k,p.1+k)) (p.2-p.1+1).toNat _ (λk hk=>?_) ?_ (by simp[zE])
 .have:=Bu p.1 k;unfold Vc;simp only;rw[if_pos (by omega),Hf (by grind),daa,wid (by omega) (by omega)]
  grind[zE]
 grind[Vc]
noncomputable def aH(t:GType) (e:List GEnum) (cuts:List Int):List Int:=
 if(Xg t e).2<(Xg t e).1 then []
 else if t.Kind=1\/t.Kind=6 then zE (Xg t e).1 ((Xg t e).2-(Xg t e).1+1).toNat
 else Sd ([(Xg t e).1]++cuts.filter λc=>decide ((Xg t e).1<=c)&&decide (c<=(Xg t e).2))
theorem lA{t:GType}{e:List GEnum}(he:∀x∈e,x.Members.length<=1048576):-1000000000000000<=(Xg t e).1/\(Xg t e).2<=1000000000000000/\((t.Kind=1\/t.Kind=6)->(Xg t e).1=0/\(Xg t e).2<=1048576)/\(ja t e=false->(Xg t e).2<(Xg t e).1)/\(ja t e=true->t.Kind≠6->(Xg t e).1<(Xg t e).2):=by
 have hb:=ql t e;unfold Fe at hb;rw[La,daa]at hb
 cases hv:ja t e with
 |false=>
  grind
 |true=>
  rw[hv]at hb;simp only[waa,if_false]at hb;by_cases h1:t.Kind=1
  .grind
  by_cases h2:t.Kind=2
  .grind
  by_cases h3:t.Kind=3
  .grind
  by_cases h4:t.Kind=4
  .grind
  by_cases h5:t.Kind=5
  .grind
  .rw[if_neg h1,if_neg h2,if_neg h3,if_neg h4,if_neg h5]at hb;have h6:t.Kind=6:=by
    grind[ja]
   unfold ja at hv;rw[if_pos h6]at hv;simp at hv;have hm:=he _ (laa (l:=e) (n:=t.Enum.toNat) (by omega));rw[Ij hv.1 hv.2,daa,wid (by omega) (by omega)]at hb
   grind
theorem Ut{t:GType}{e:List GEnum}(he:∀x∈e,x.Members.length<=1048576) {cuts:List Int}(hc:cuts.length<=1099511627):Yd t e cuts=some (aH t e cuts):=by
 obtain⟨b1,b2,b3,b4,b5⟩:=lA (t:=t) he;unfold Yd aH;rw[Ia,daa,Ol,daa]
 cases hv:ja t e with
 |false=>simp_all
 |true=>
  rw[if_neg (by simp)];have hk:(if¬t.Kind=1 then some (t.Kind==6)else some true)=some (decide (t.Kind=1\/t.Kind=6)):=by
   grind
  rw[hk,daa];by_cases hk2:t.Kind=1\/t.Kind=6
  .obtain⟨q1,q2⟩:=b3 hk2;rw[if_pos (by simp_all),UF ⟨by omega,by omega⟩ (by omega),daa,if_pos hk2];by_cases hlt:(Xg t e).2<(Xg t e).1
   .rw[if_pos hlt,show((Xg t e).2-(Xg t e).1+1).toNat=0 by omega];rfl
   grind
  .have hlt:=b5 hv (λh=>hk2 (.inr h));rw[if_neg (by simp_all),if_neg (by omega),if_neg hk2];have hl:fa (Wc cuts (Xg t e)) ([(Xg t e).1],0)=some (.inl ([(Xg t e).1]++cuts.filter λc=>decide ((Xg t e).1<=c)&&decide (c<=(Xg t e).2))):=by
    refine Xc (λi=>([(Xg t e).1]++(cuts.take i).filter (λc=>decide ((Xg t e).1<=c)&&decide (c<=(Xg t e).2)),(i:Int))) cuts.length _ (λi hi=>?_) (by grind[Wc]) (by simp);have:=Ru (l:=cuts) (p:=λc=>decide ((Xg t e).1<=c)&&decide (c<=(Xg t e).2)) (i:=i);unfold Wc;simp only;rw[if_pos (by omega),Aa hi,daa,ya (by omega),Xs hi];generalize cuts[i]=c;by_cases c1:(Xg t e).1<=c
    .by_cases c2:c<=(Xg t e).2
     .rw[if_pos c1,daa,decide_eq_true c2,if_pos rfl,Hf (by grind)];grind
     grind
    grind
   have:=gab (λc=>decide ((Xg t e).1<=c)&&decide (c<=(Xg t e).2)) cuts;rw[hl,daa];simp only[fb,Ma];rw[if_pos (by grind),daa,if_pos (by simp;omega),daa,Ap]
theorem tu{t:GType}{e:List GEnum}(he:∀x∈e,x.Members.length<=1048576) {cuts:List Int}(hc:cuts.length<=1099511627):je t e cuts=some (aH t e cuts):=by
 obtain⟨b1,b2,b3,b4,b5⟩:=lA (t:=t) he;unfold je aH;rw[ql,daa];by_cases hlt:(Xg t e).2<(Xg t e).1
 .simp_all
 rw[if_neg hlt,if_neg hlt];have hk:(if¬t.Kind=1 then some (t.Kind==6)else some true)=some (decide (t.Kind=1\/t.Kind=6)):=by
  grind
 rw[hk,daa];by_cases hk2:t.Kind=1\/t.Kind=6
 .obtain⟨q1,q2⟩:=b3 hk2;have hr:fa (qi (Xg t e)) (([]:List Int),(Xg t e).1)=some (.inl (zE (Xg t e).1 ((Xg t e).2-(Xg t e).1+1).toNat)):=UF ⟨by omega,by omega⟩ (by omega)
  simp_all
 .rw[if_neg (by simp_all),if_neg hk2];have hl:fa (Yc cuts (Xg t e)) ([(Xg t e).1],0)=some (.inl (Sd ([(Xg t e).1]++cuts.filter λc=>decide ((Xg t e).1<=c)&&decide (c<=(Xg t e).2)))):=by
   refine Xc (λi=>(Sd ([(Xg t e).1]++(cuts.take i).filter (λc=>decide ((Xg t e).1<=c)&&decide (c<=(Xg t e).2))),(i:Int))) cuts.length _ (λi hi=>?_) (by grind[Yc]) (by simp[Sd,Ii]);have h1:=Ru (l:=cuts) (p:=λc=>decide ((Xg t e).1<=c)&&decide (c<=(Xg t e).2)) (i:=i);have h2:=Wl ([(Xg t e).1]++(cuts.take i).filter (λc=>decide ((Xg t e).1<=c)&&decide (c<=(Xg t e).2)));have h3:=h2.2.1;rw[Oaa,Yaa]at h3;unfold Yc;simp only;rw[if_pos (by omega),Aa hi,daa,ya (by omega),Xs hi,←kab];generalize cuts[i]=c;by_cases c1:(Xg t e).1<=c
   .by_cases c2:c<=(Xg t e).2
    .rw[if_pos c1,daa,decide_eq_true c2,if_pos rfl,daa,Nr h2.1 (by omega),decide_eq_true c1,if_pos (show(true&&true)=true from rfl),OC];rfl
    grind
   grind
  simp_all
def pc(g:List (List Int)):Nat->Int
 |0=>1
 |k+1=>match g[k]? with|some l=>if pc g k<=4096 then pc g k*(l.length:Int)else pc g k|none=>pc g k
theorem BB{g:List (List Int)}(hl:∀l∈g,0<l.length/\l.length<=1099511627776):∀k,1<=pc g k/\pc g k<=4503599627370496
 |0=>by simp[pc]
 |k+1=>by
  have ih:=BB hl k;unfold pc;split
  .rename_i l h;have:=hl l (Eaa h);split
   .rename_i hle;constructor
    .have:(1:Int)*1<=pc g k*(l.length:Int):=sac ih.1 (by omega) (by omega) (by omega);omega
    .have:pc g k*(l.length:Int)<=4096*1099511627776:=sac hle (by omega) (by omega) (by omega);omega
   omega
  omega
def Mv(g:List (List Int)):Int:=if(g.any λl=>decide (l.length=0))=true then 0 else min (pc g g.length) 4097
theorem any_zero{g:List (List Int)}(h:(g.any λl=>decide (l.length=0))=false) {l:List Int}(hl:l∈g):0<l.length:=by
 grind
theorem FE{g:List (List Int)}(hg:g.length<=1048576) (hl:∀l∈g,l.length<=1099511627776):Rp g=some (Mv g):=by
 unfold Rp Mv;have key:∀k,k<=g.length->(∀j (hj:j<k) (hjl:j<g.length),g[j].length≠0)->pc g k<=4503599627370496/\1<=pc g k:=by
  intro k hk hz
  induction k with
  |zero=>simp[pc]
  |succ k ih=>
   have ih:=ih (by omega) λj hj hjl=>hz j (by omega) hjl;have hlt:k<g.length:=by omega
   have h1:=hl _ (laa hlt);have h2:=hz k (by omega) hlt;unfold pc;rw[faa hlt];dsimp only;split
   .rename_i hle;constructor
    .have:pc g k*(g[k].length:Int)<=4096*1099511627776:=sac hle (by omega) (by omega) (by omega);omega
    .have:(1:Int)*1<=pc g k*(g[k].length:Int):=sac ih.2 (by omega) (by omega) (by omega);omega
   omega
 have h1:fa (Tk g) (1,0)=some (Mb (pc g g.length) (ff (λi=>if(g[i]?.any λl=>decide (l.length=0))=true then some 0 else none) g.length)):=by
  refine Lb (λk=>(pc g k,(k:Int))) _ _ _ (λk hk hf=>?_) (λ_=>by grind[Tk]) rfl;obtain⟨p1,p2⟩:=key k (by omega) λj hj hjl hz=>by
   grind
  have hlk:=hl _ (laa hk);unfold Tk;simp only[pc,faa hk,dab,decide_eq_true_eq];rw[if_pos (by omega),Aa hk,daa,ya (by omega)];by_cases h0:g[k].length=0
  .rw[if_pos (by omega),if_pos h0];rfl
  .rw[if_neg (by omega),if_neg h0];by_cases hle:pc g k<=4096
   .have:pc g k*(g[k].length:Int)<=4096*1099511627776:=sac hle (by omega) (by omega) (by omega);have:(0:Int)<=pc g k*(g[k].length:Int):=Oad (by omega) (by omega);rw[if_pos hle,if_pos hle,wid (by omega) (by omega)];rfl
   .rw[if_neg hle,if_neg hle];rfl
 rw[h1,←ym (l:=g) (q:=λl=>decide (l.length=0)) (g:=λ_=>(0:Int)),daa]
 cases hf:ff (λi=>if(g[i]?.any λl=>decide (l.length=0))=true then some (0:Int)else none) g.length with
 |none=>rfl
 |some v=>
  obtain⟨j,-,j2,-⟩:=Sa.1 hf;split at j2
  .injection j2 with j2;subst j2;rfl
  simp_all
theorem bF{g:List (List Int)}(hg:g.length<=1048576) (hl:∀l∈g,l.length<=1099511627776):kq g=some (Mv g):=by
 unfold kq Mv;have h1:fa (Gl g) 0=some (Mb () (ff (λi=>if(g[i]?.any λl=>decide (l.length=0))=true then some 0 else none) g.length)):=by
  refine Lb (λk=>(k:Int)) _ _ _ (λk hk hf=>?_) (λ_=>by grind[Gl]) rfl;unfold Gl;simp only[faa hk,dab,decide_eq_true_eq];rw[if_pos (by omega),Aa hk,daa,ya (by omega)];by_cases h0:g[k].length=0
  .rw[if_pos (by omega),if_pos h0];rfl
  .rw[if_neg (by omega),if_neg h0];rfl
 have hany:=ym (l:=g) (q:=λl=>decide (l.length=0)) (g:=λ_=>(0:Int));rw[h1,←hany,daa]
 cases hf:ff (λi=>if(g[i]?.any λl=>decide (l.length=0))=true then some (0:Int)else none) g.length with
 |some v=>
  obtain⟨j,-,j2,-⟩:=Sa.1 hf;split at j2
  .injection j2 with j2;subst j2;rfl
  simp_all
 |none=>
  rw[hf]at hany;have hz:∀l∈g,0<l.length/\l.length<=1099511627776:=λl hlm=>⟨any_zero hany.symm hlm,hl l hlm⟩;have hb:=BB hz;have stay:∀n k,¬pc g k<=4096->pc g (k+n)=pc g k:=by
   intro n k hk
   induction n with
   |zero=>rfl
   |succ n ih=>
    grind[pc]
  have h2:fa (Hg g) (1,0)=some (.inl (pc g g.length)):=by
   have hstep:∀k,k<g.length->pc g k<=4096->Hg g (pc g k,(k:Int))=some (.go (pc g (k+1),((k+1:Nat):Int))):=by
    intro k hk hle;have hlk:=hz _ (laa hk);have:=hb k;have h3:pc g k*(g[k].length:Int)<=4096*1099511627776:=sac hle (by omega) (by omega) (by omega);have h4:(0:Int)<=pc g k*(g[k].length:Int):=Oad (by omega) (by omega);unfold Hg;simp only[pc,faa hk];rw[if_pos (by omega),daa,if_pos (by simp_all),Aa hk,daa,ya (by omega),wid (by omega) (by omega),if_pos hle]
   by_cases hall:∀k,k<g.length->pc g k<=4096
   .exact Xc (λk=>(pc g k,(k:Int))) g.length _ (λk hk=>hstep k hk (hall k hk)) (by grind[Hg]) rfl
   .obtain⟨k,k1,k2,k3⟩:∃k,k<g.length/\¬pc g k<=4096/\∀j,j<k->pc g j<=4096:=by
     have:∀n,(∃k,k<n/\¬pc g k<=4096)->∃k,k<n/\¬pc g k<=4096/\∀j,j<k->pc g j<=4096:=by
      intro n
      induction n with
      |zero=>omega
      |succ n ih=>
       rintro⟨k,h,hk⟩;by_cases he:∃k,k<n/\¬pc g k<=4096
       all_goals grind
     refine this _ ?_
     simp_all
    have he:pc g g.length=pc g k:=by
     have:=stay (g.length-k) k k2
     grind
    rw[he];refine Xc (λj=>(pc g j,(j:Int))) k _ (λj hj=>hstep j (by omega) (k3 j hj)) ?_ rfl
    simp_all[Hg]
  grind[Mb]
def Xu(gs:List (List GNode)) (i:Int):Bool:=gs.any λg=>g.any λn=>decide (n.Op=7/\n.N=i)
theorem AP{l:List GNode}(hl:l.length<=1048576) (i:Int):Zb l (GNode.mk 7 i)=some (l.any λn=>decide (n.Op=7/\n.N=i)):=by
 have h:=rn (l:=l) (p:=λx=>some (decide (7=x.Op/\i=x.N))) (λn=>decide (n.Op=7/\n.N=i)) (λx _=>by grind) (by omega) (o:=fa (bc l (GNode.mk 7 i)) 0) (by
  unfold bc;simp)
 exact h
theorem Tw{gs:List (List GNode)}(hg:gs.length<=1048576) (hl:∀g∈gs,g.length<=1048576) (i:Int):ph gs i=some (Xu gs i):=by
 unfold ph Xu;have h1:fa (Je gs i) 0=some (Mb () (ff (λk=>if(gs[k]?.any λg=>g.any λn=>decide (n.Op=7/\n.N=i))=true then some true else none) gs.length)):=by
  refine Lb (λk=>(k:Int)) _ _ _ (λk hk _=>?_) (λ_=>by grind[Je]) rfl;unfold Je;rw[if_pos (by omega),Aa hk,daa,AP (hl _ (laa hk)),daa,ya (by omega),faa hk,dab];cases gs[k].any λn=>decide (n.Op=7/\n.N=i)<;>rfl
 rw[h1,←ym (g:=λ_=>true),daa]
 cases hf:ff (λk=>if(gs[k]?.any λg=>g.any λn=>decide (n.Op=7/\n.N=i))=true then some true else none) gs.length with
 |none=>rfl
 |some v=>
  obtain⟨j,-,j2,-⟩:=Sa.1 hf;split at j2
  .injection j2 with j2;subst j2;rfl
  simp_all
theorem aE{gs:List (List GNode)}(hg:gs.length<=1048576) (hl:∀g∈gs,g.length<=1048576) (i:Int):Eo gs i=some (Xu gs i):=by
 unfold Eo Xu;have h1:fa (Xj gs i) 0=some (Mb () (ff (λk=>if(gs[k]?.any λg=>g.any λn=>decide (n.Op=7/\n.N=i))=true then some true else none) gs.length)):=by
  refine Lb (λk=>(k:Int)) _ _ _ (λk hk _=>?_) (λ_=>by grind[Xj]) rfl;have hlk:=hl _ (laa hk);have h2:fa (Wj gs i (k:Int)) 0=some (Mb () (ff (λj=>if(gs[k][j]?.any λn=>decide (n.Op=7/\n.N=i))=true then some (Ex.ret true)else none) gs[k].length)):=by
   refine Lb (λj=>(j:Int)) _ _ _ (λj hj _=>?_) (λ_=>by simp_all[Wj,Aa]) rfl;unfold Wj;rw[Aa hk,daa,if_pos (by omega),Aa hj,daa,ya (by omega),faa hj,dab]
   grind[pD]
  unfold Xj;rw[if_pos (by omega),h2,daa,ya (by omega),faa hk,dab,←ym (g:=λ_=>(Ex.ret true:Ex Int Unit Bool))]
  cases hf:ff (λj=>if(gs[k][j]?.any λn=>decide (n.Op=7/\n.N=i))=true then some (Ex.ret true:Ex Int Unit Bool)else none) gs[k].length with
  |none=>rfl
  |some v=>
   obtain⟨j,-,j2,-⟩:=Sa.1 hf;split at j2
   .injection j2 with j2;subst j2;rfl
   simp_all
 rw[h1,←ym (g:=λ_=>true),daa]
 cases hf:ff (λk=>if(gs[k]?.any λg=>g.any λn=>decide (n.Op=7/\n.N=i))=true then some true else none) gs.length with
 |none=>rfl
 |some v=>
  obtain⟨j,-,j2,-⟩:=Sa.1 hf;split at j2
  .injection j2 with j2;subst j2;rfl
  simp_all
theorem Bs{l:List Int}(hl:l.length<=1099511627776):mr l l=some true:=by
 unfold mr;rw[if_neg (by simp)];have:fa (Fo l l) 0=some (.inl ()):=Xc (λk=>(k:Int)) l.length () (λk hk=>by
  unfold Fo;rw[if_pos (by omega),daa,if_pos (by simp_all),Aa hk,daa,daa,if_neg (by simp),ya (by omega)]) (by grind[Fo]) rfl
 simp_all
def wi:List (List Int)->List Int->List Int×Bool
 |l::g,a::r=>if(wi g r).2=true then(a::(wi g r).1,true)else if a+1<(l.length:Int)then((a+1)::(wi g r).1,true)else(0::(wi g r).1,false)
 |_,_=>([],false)
def sb:List (List Int)->List Int->Prop
 |l::g,a::r=>(0<=a/\a<(l.length:Int)/\l.length<=1099511627776)/\sb g r
 |[],[]=>True
 |_,_=>False
theorem sb.len:∀{g:List (List Int)}{a:List Int},sb g a->a.length=g.length
 |l::g,x::r,h=>by simp[sb.len h.2]
 |[],[],_=>rfl
theorem EH:∀{g:List (List Int)}{a:List Int},sb g a->(wi g a).1.length=g.length
 |l::g,x::r,h=>by
  have:=EH h.2;unfold wi;split<;>(try split)<;>simp[this]
 |[],[],_=>rfl
theorem kG:∀{g:List (List Int)}{a:List Int},sb g a->sb g (wi g a).1
 |l::g,x::r,h=>by
  have:=kG h.2;have:=h.1;unfold wi;split
  .exact⟨h.1,by omega⟩
  .split
   .exact⟨by omega,by omega⟩
   .exact⟨by omega,by omega⟩
 |[],[],_=>trivial
theorem FH{gr:List (List Int)}{step:List Int×Int->Option (Ex (List Int×Int) (List Int) (List Int×Bool))}
 (hs:∀a i,step (a,i)=if 0<=i then(idx a i).bind λx38=>(put a i (da .i64 (x38+1))).bind λx39=>(idx x39 i).bind λx40=>(idx gr i).bind λx41=>if x40<(x41.length:Int)then some (.ret (x39,true))else(put x39 i 0).bind λx43=>some (.go (x43,da .i64 (i-1)))else some (.brk a))
 (hl:gr.length<=1048576) :
 ∀{g:List (List Int)} {a:List Int},sb g a->∀{pg:List (List Int)} {pa:List Int},pa.length=pg.length->gr=pg++g->
  fa step (pa++a,((pa.length+a.length:Nat):Int)-1)=if(wi g a).2=true then some (.inr (pa++(wi g a).1,true))else fa step (pa++(wi g a).1,(pa.length:Int)-1)
 |l::g,x::r,h,pg,pa,hp,hg=>by
  have hgl:pg.length+g.length+1=gr.length:=by grind
  have hlen:=EH h.2;have ih:=FH hs hl h.2 (pg:=pg++[l]) (pa:=pa++[x]) (by grind) (by grind);have e1:pa++x::r=(pa++[x])++r:=by simp
  have e2:pa.length+(x::r).length=(pa++[x]).length+r.length:=by grind
  rw[e1,e2,ih];have hx:=h.1
  conv=>rhs;unfold wi
  by_cases hb:(wi g r).2=true
  .grind
  rw[if_neg hb,if_neg hb];have e3:(((pa++[x]).length:Nat):Int)-1=((pa.length:Nat):Int):=by simp
  have e4:pa++[x]++(wi g r).1=pa++x::(wi g r).1:=by simp
  rw[e3,e4];generalize (wi g r).1=q at hlen⊢;have hi:pa.length<(pa++x::q).length:=by simp
  have hgi:gr[pa.length]?=some l:=by grind
  have st:step (pa++x::q,(pa.length:Int))=if x+1<(l.length:Int)then some (.ret (pa++(x+1)::q,true))else some (.go (pa++0::q,(pa.length:Int)-1)):=by
   rw[hs,if_pos (by omega),Aa hi,daa,ry hi,daa,List.getElem_append_right (saa _),Aa (by simp),daa,tI,hgi,daa];simp only[Qab,List.getElem_cons_zero,aad]
   grind[wid,ry]
  by_cases hc:x+1<(l.length:Int)
  .rw[if_pos hc]at st;rw[ku st,if_pos hc,if_pos rfl]
  .rw[if_neg hc]at st;rw[kl st,if_neg hc,if_neg (by simp)]
 |[],[],_,pg,pa,hp,hg=>by
  grind[wi]
theorem WN{gr:List (List Int)}{step:List Int×Int->Option (Ex (List Int×Int) (List Int) (List Int×Bool))}
 (hs:∀a i,step (a,i)=if 0<=i then(idx a i).bind λx38=>(put a i (da .i64 (x38+1))).bind λx39=>(idx x39 i).bind λx40=>(idx gr i).bind λx41=>if x40<(x41.length:Int)then some (.ret (x39,true))else(put x39 i 0).bind λx43=>some (.go (x43,da .i64 (i-1)))else some (.brk a))
 (hl:gr.length<=1048576) {a:List Int} (ha:sb gr a) :
 ((fa step (a,da .i64 ((a.length:Int)-1))).bind λy=>match y with|.inr v=>some v|.inl b46=>some (b46,false))=some (wi gr a):=by
 have h:=FH hs hl ha (pg:=[]) (pa:=[]) rfl rfl;have hlen:=ha.len;simp only[List.nil_append,bab,jab]at h;rw[wid (by omega) (by omega),h];by_cases hb:(wi gr a).2=true
 .grind
 .have st:step ((wi gr a).1,((0:Nat):Int)-1)=some (.brk (wi gr a).1):=by simp_all
  rw[if_neg hb,Wf st,daa]
  grind
def Vd:List (List Int)->Nat
 |[]=>1
 |l::g=>l.length*Vd g
def rk:List (List Int)->List Int->Nat
 |l::g,a::r=>a.toNat*Vd g+rk g r
 |_,_=>0
theorem dH{l a:List Int}{g:List (List Int)}{x:Int}:rk (l::g) (x::a)=x.toNat*Vd g+rk g a:=rfl
theorem EC{l:List Int}{g:List (List Int)}:Vd (l::g)=l.length*Vd g:=rfl
theorem fE:∀{g:List (List Int)}{a:List Int},sb g a->rk g a<Vd g
 |l::g,x::r,h=>by
  have ih:=fE h.2;have hx:=h.1;have:(x.toNat+1)*Vd g<=l.length*Vd g:=Gaa _ (by omega)
  grind[dH,EC]
 |[],[],_=>by simp[rk,Vd]
theorem uK:∀{g:List (List Int)}{a b:List Int},sb g a->sb g b->rk g a=rk g b->a=b
 |l::g,x::r,y::q,h,k,e=>by
  have h1:=fE h.2;have k1:=fE k.2;have hx:=h.1;have ky:=k.1;unfold rk at e;have hxy:x.toNat=y.toNat:=by
   rcases Nat.lt_trichotomy x.toNat y.toNat with c|c|c
   .have:(x.toNat+1)*Vd g<=y.toNat*Vd g:=Gaa _ c
    grind
   .exact c
   .have:(y.toNat+1)*Vd g<=x.toNat*Vd g:=Gaa _ c
    grind
  rw[hxy]at e;rw[show x=y by omega,uK h.2 k.2 (by omega)]
 |[],[],[],_,_,_=>rfl
theorem fH:∀{g:List (List Int)}{a:List Int},sb g a->((wi g a).2=true->rk g (wi g a).1=rk g a+1)/\((wi g a).2=false->rk g a+1=Vd g/\rk g (wi g a).1=0)
 |l::g,x::r,h=>by
  have ih:=fH h.2;have hx:=h.1;unfold wi;by_cases hb:(wi g r).2=true
  .grind[rk]
  .have:=ih.2 (pab.2 hb);rw[if_neg hb];by_cases hc:x+1<(l.length:Int)
   .rw[if_pos hc];refine⟨λ_=>?_,λh=>by cases h⟩;unfold rk;rw[show(x+1).toNat=x.toNat+1 by omega,Lac];omega
   .rw[if_neg hc];refine⟨λh=>(by cases h),λ_=>?_⟩;have:l.length=x.toNat+1:=by omega
    rw[dH,dH,EC,this,Lac,Int.toNat_zero,Nat.zero_mul];omega
 |[],[],_=>by grind[wi,rk,Vd]
theorem QK:∀{g:List (List Int)},(∀l∈g,0<l.length/\l.length<=1099511627776)->sb g (jaa g.length 0)/\rk g (jaa g.length 0)=0
 |[],_=>⟨trivial,rfl⟩
 |l::g,h=>by
  have ih:=QK (g:=g) λx hx=>h x (by grind);have:=h l (by simp);rw[Jaa,iab];refine⟨⟨by omega,ih.1⟩,?_⟩
  grind[rk]
theorem xJ{σ β ρ:Type}{g:List (List Int)}{step:σ×List Int×Bool->Option (Ex (σ×List Int×Bool) β ρ)}(I:Nat->σ->Prop) (Done:σ->List Int->Prop) (out:σ->β)
 (hstep:∀s c,sb g c->I (rk g c) s->∃s',step (s,c,true)=some (.go (s',wi g c))/\I (rk g c+1) s'/\Done s' c/\∀d,Done s d->Done s' d)
 (hend:∀s c,step (s,c,false)=some (.brk (out s)))
 {s0:σ} {c0:List Int} (h0:sb g c0) (hr:rk g c0=0) (hI:I 0 s0) :
 ∃s,fa step (s0,c0,true)=some (.inl (out s))/\I (Vd g) s/\∀c,sb g c->Done s c:=by
 have key:∀(n:Nat) (s:σ) (c:List Int),Vd g-rk g c<=n->sb g c->I (rk g c) s->(∀d,sb g d->rk g d<rk g c->Done s d)->∃s',fa step (s,c,true)=some (.inl (out s'))/\I (Vd g) s'/\∀d,sb g d->Done s' d:=by
  intro n
  induction n with
  |zero=>intro s c hn hc;have:=fE hc;omega
  |succ n ih=>
   intro s c hn hc hi hd;obtain⟨s',h1,h2,h3,h4⟩:=hstep s c hc hi;have hn2:=fH hc;have ok:=kG hc;have all:∀d,sb g d->rk g d<rk g c+1->Done s' d:=λd hd' hlt=>by
    grind[uK]
   rw[kl h1]
   cases hb:(wi g c).2 with
   |true=>
    grind
   |false=>
    have e:=(hn2.2 hb).1;rw[show wi g c=((wi g c).1,false) by grind,Wf (hend s' _)];exact⟨s',rfl,by simp_all,λd hd'=>all d hd' (by simp_all[fE])⟩
 exact key _ s0 c0 (saa _) h0 (by simp_all) λd _ hlt=>by omega
theorem wJ(g:List (List Int)) (l:List Int):Vd (g++[l])=Vd g*l.length:=by
 induction g with
 |nil=>simp[Vd]
 |cons a g ih=>grind[Vd]
theorem PD{g:List (List Int)}(hl:∀l∈g,0<l.length):∀k,k<=g.length->pc g k=(Vd (g.take k):Int)\/4096<pc g k
 |0,_=>.inl (by simp[pc,Vd])
 |k+1,hk=>by
  have ih:=PD hl k (by omega);have hkl:k<g.length:=by omega
  have:=hl _ (laa hkl);unfold pc;rw[faa hkl];dsimp only;rw[Raa,faa hkl,Eab,wJ]
  grind
theorem tO{g:List (List Int)}(hl:∀l∈g,0<l.length) (h:Mv g<=4096):Vd g<=4096:=by
 have h0:(g.any λl=>decide (l.length=0))=false:=by
  grind
 unfold Mv at h;rw[h0,if_neg (by simp)]at h;rcases PD hl g.length (saa _)with e|e
 all_goals grind
theorem Rm{e:List GNode}(h:Wst e) {i:Nat}(hi:i<e.length) {env:GEnv}:sd ⟨e,(Be e e.length).1,env⟩ (i:Int)=some (qu e i):=by
 have hle:=h.le;obtain⟨a1,a2,a3⟩:=h.ar hi;have ha3:Pb e i<=12:=by have:=En (e:=e) (i:=i) λj hj=>h.err j (by omega);omega
 have haI:gb (ua e i).Op=(Pb e i:Int):=by grind[Pb]
 unfold sd;dsimp only;rw[Aa hi,daa,Ld hi,Jf,daa,haI,GA (by omega) (by omega),daa,Xaa,wid (n:=(i:Int)-1) (by omega) (by omega),wid (n:=(Pb e i:Int)-1) (by omega) (by omega),JI h hi λa b c=>by grind[lg]];rfl
noncomputable def QE(e:List GNode) (env:GEnv) (i:Nat):GValue×Int:=((Ba (3*i+3)).1 e i env).getD (⟨0,0,0⟩,0)
structure NodeB (e:List GNode) (env:GEnv) (i:Nat):Prop where
 p:∀n,3*i+3<=n->(ca n).1 ⟨e,(Be e e.length).1,env⟩ i=some (QE e env i)
 r:∀n,3*i+3<=n->(Ba n).1 e i env=some (QE e env i)
 ok:(QE e env i).2=0->Bd (QE e env i).1
theorem HI{e:List GNode}{env:GEnv}{i:Nat}(q:GValue×Int) (h1:∀n,3*i+3<=n->(ca n).1 ⟨e,(Be e e.length).1,env⟩ i=some q) (h2:∀n,3*i+3<=n->(Ba n).1 e i env=some q) (h3:q.2=0->Bd q.1):NodeB e env i:=by
 have:QE e env i=q:=by simp_all[QE]
 exact⟨by simp_all,by simp_all,by simp_all⟩
theorem Dt(e:List GNode) (i:Nat):Pb e i<=3:=by
 grind[Pb,gb]
noncomputable def Av(e:List GNode) (env:GEnv) (i:Nat):List GValue:=(yaa (Pb e i)).map λt=>(QE e env (Lf e i t)).1
noncomputable def nG(e:List GNode) (env:GEnv) (i:Nat) (t:Nat):Option (GValue×Int):=if¬(QE e env (Lf e i t)).2=0 then some (⟨0,0,0⟩,(QE e env (Lf e i t)).2)else none
theorem Gz(e:List GNode) (i:Nat):(qu e i).length=Pb e i:=by simp[qu]
theorem Zq{e:List GNode}{i t:Nat}(h:t<Pb e i):idx (qu e i) (t:Int)=some ((Lf e i t:Nat):Int):=by
 grind[qu,Aa]
theorem sy{α:Type}{f:Nat->α}{k t:Nat}(h:t<k):((yaa k).map f).take (t+1)=((yaa k).map f).take t++[f t]:=by
 grind[Raa]
theorem hX{e:List GNode}{env:GEnv}(h:Wst e) {i:Nat}(hi:i<e.length) {n:Nat}(ih:∀j,j<i->(ca n).1 ⟨e,(Be e e.length).1,env⟩ j=some (QE e env j)) :
 fa (Va ⟨e,(Be e e.length).1,env⟩ (qu e i) (ca n).1) (jaa (Pb e i) ⟨0,0,0⟩,0)=some (Mb (Av e env i) (ff (nG e env i) (Pb e i))):=by
 have hl:=Gz e i;have h3:=Dt e i;refine Lb (step:=Va ⟨e,(Be e e.length).1,env⟩ (qu e i) (ca n).1) (λt=>((Av e env i).take t++jaa (Pb e i-t) ⟨0,0,0⟩,(t:Int))) (nG e env i) (Pb e i) (Av e env i) (λt ht _=>?_) (λ_=>?_) (by simp)
 .obtain⟨o1,-⟩:=Mf h hi ht;have hlen:(Av e env i).length=Pb e i:=by simp[Av]
  unfold Va;dsimp only;rw[if_pos (by omega),Zq ht,daa,ih _ o1,daa];unfold nG;by_cases hc:(QE e env (Lf e i t)).2=0
  .rw[if_neg (xaa.2 hc),if_neg (xaa.2 hc)];rw[Aa (by grind),daa,ry (by grind),daa,ya (by omega)];unfold pD;dsimp only;congr 3;rw[iac _ _ (by grind),show t-((Av e env i).take t).length=0 by grind,show Pb e i-t=(Pb e i-(t+1))+1 by omega,iab,Pab]
   grind[Av,sy]
  .rw[if_pos hc,if_pos hc];rfl
 .unfold Va;dsimp only;rw[if_neg (by omega),Qab];have hlen:(Av e env i).length=Pb e i:=by simp[Av]
  grind
theorem iX{e:List GNode}{env:GEnv}(h:Wst e) {i:Nat}(hi:i<e.length) {n:Nat}(ih:∀j,j<i->(Ba n).1 e j env=some (QE e env j)) :
 fa (Si e env (qu e i) (Ba n).1) (([]:List GValue),0)=some (Mb (Av e env i) (ff (nG e env i) (Pb e i))):=by
 have hl:=Gz e i;have h3:=Dt e i;refine Lb (step:=Si e env (qu e i) (Ba n).1) (λt=>((Av e env i).take t,(t:Int))) (nG e env i) (Pb e i) (Av e env i) (λt ht _=>?_) (λ_=>?_) (by simp)
 .obtain⟨o1,-⟩:=Mf h hi ht;unfold Si;dsimp only;rw[if_pos (by omega),Zq ht,daa,ih _ o1,daa];unfold nG;by_cases hc:(QE e env (Lf e i t)).2=0
  .rw[if_neg (xaa.2 hc),if_neg (xaa.2 hc)]
   grind[pD,Av,Hf,ya,sy]
  .rw[if_pos hc,if_pos hc];rfl
 .unfold Si;dsimp only;have hlen:(Av e env i).length=Pb e i:=by simp[Av]
  grind
theorem gL{op:Int}{α:Type}{k:Bool->Option α}:(eaa (α:=Bool) (if op=23 then some true else if op=24 then some true else some (op==26)) k)=k (decide (op=23\/op=24\/op=26)):=by
 grind
theorem IP{op:Int}{α:Type}{k:Bool->Option α}:(eaa (α:=Bool) (if¬op=23 then if¬op=24 then some (op==26)else some true else some true) k)=k (decide (op=23\/op=24\/op=26)):=by
 grind
def xk(p:GValue×Int):GValue×Int:=if¬p.2=0 then(⟨0,0,0⟩,p.2)else if p.1.Kind=1/\Bd p.1 then p else(⟨0,0,0⟩,8)
theorem T1{v:GValue}{α:Type}{k:Bool->Option α}:(eaa (α:=Bool) (if v.Kind=1 then(Kb v).bind λx4=>some (!x4)else some true) k)=k (decide (¬(v.Kind=1/\Bd v))):=by
 grind[Cn,fc]
theorem wX{v:GValue}{α:Type}{k:Bool->Option α}:(eaa (α:=Bool) (if v.Kind=1 then(Gb v).bind λx4=>some (!x4)else some true) k)=k (decide (¬(v.Kind=1/\Bd v))):=by
 grind[Cn,Ag]
theorem iO{R214:GEval_evaluator->Int->Option (GValue×Int)}{R250 R275}{x:GEval_evaluator}{j:Int}{p:GValue×Int}(h:R214 x j=some p):xb R214 R250 R275 x j=some (xk p):=by
 unfold xb xk;rw[h,daa];simp only[T1]
 grind
def Dx(op N:Int) (p0 p1 p2:GValue×Int):GValue×Int:=
 if¬N=0 then(⟨0,0,0⟩,2)else
 if¬(xk p0).2=0 then(⟨0,0,0⟩,(xk p0).2)else
 if op=26 then(if(xk p0).1.N=1 then p1 else p2)else
 if(op==23)=((xk p0).1.N==0)then((xk p0).1,0)else xk p1
theorem CI{op N:Int}{p0 p1 p2:GValue×Int}(h1:p1.2=0->Bd p1.1) (h2:p2.2=0->Bd p2.1):(Dx op N p0 p1 p2).2=0->Bd (Dx op N p0 p1 p2).1:=by
 grind[Dx,xk]
theorem fU{e:List GNode}(h:Wst e) {env:GEnv}(hA:∀i,i<e.length->¬((ua e i).Op=23\/(ua e i).Op=24\/(ua e i).Op=26)->Ot (Wa (ua e i) (Av e env i) env) (Bl (ua e i) (Av e env i) env)):∀i,i<e.length->NodeB e env i:=by
 intro i
 induction i using lac with
 |_ i ih=>
  intro hi;have hle:=h.le;have har:=h.ar hi;have hga:=Dt e i;have hops:=Gz e i;by_cases hlz:(ua e i).Op=23\/(ua e i).Op=24\/(ua e i).Op=26
  .have hk:2<=Pb e i/\((ua e i).Op=26->Pb e i=3):=by
    unfold Pb;rcases hlz with h|h|h<;>rw[h]<;>decide
   have o0:=(Mf h hi (j:=0) (by omega)).1;have o1:=(Mf h hi (j:=1) (by omega)).1;have b0:=ih _ o0 (by omega);have b1:=ih _ o1 (by omega);have i0:idx (qu e i) 0=some ((Lf e i 0:Nat):Int):=Zq (t:=0) (by omega);have i1:idx (qu e i) 1=some ((Lf e i 1:Nat):Int):=Zq (t:=1) (by omega);have hb2:(ua e i).Op=26->NodeB e env (Lf e i 2)/\Lf e i 2<i/\idx (qu e i) 2=some ((Lf e i 2:Nat):Int):=λh26=>by
    grind[Mf,Zq]
   refine HI (Dx (ua e i).Op (ua e i).N (QE e env (Lf e i 0)) (QE e env (Lf e i 1)) (if(ua e i).Op=26 then QE e env (Lf e i 2)else(⟨0,0,0⟩,1))) (λn hn=>?_) (λn hn=>?_) (CI b1.ok (by
    split
    .rename_i h26;exact(hb2 h26).1.ok
    omega))
   .obtain⟨n,rfl⟩:∃m,n=m+3:=⟨n-3,by omega⟩;show Ra (ca (n+2)).1 (ca (n+2)).2.1 (ca (n+2)).2.2 _ _=_;unfold Ra;dsimp only;rw[Aa hi,daa,Ld hi,Rm h hi,daa,gL,decide_eq_true hlz,if_pos rfl,Nq];show jc (ca (n+1)).1 (ca (n+1)).2.1 (ca (n+1)).2.2 _ _ _=_;unfold jc Dx;by_cases hN0:(ua e i).N=0
    case neg=>simp_all
    rw[if_neg (xaa.2 hN0),if_neg (xaa.2 hN0),i0,daa];have hbo:∀j,j<i->NodeB e env j->(ca (n+1)).2.2 ⟨e,(Be e e.length).1,env⟩ (j:Int)=some (xk (QE e env j)):=λj hj hb=>(show xb (ca n).1 (ca n).2.1 (ca n).2.2 _ _=_ from iO (hb.p n (by omega)));rw[hbo _ o0 b0,daa];by_cases hc:(xk (QE e env (Lf e i 0))).2=0
    case neg=>simp_all
    rw[if_neg (xaa.2 hc),if_neg (xaa.2 hc)];by_cases h26:(ua e i).Op=26
    .obtain⟨c1,c2,c3⟩:=hb2 h26;rw[if_pos h26,if_pos h26,daa,if_pos h26,if_pos h26];by_cases h1:(xk (QE e env (Lf e i 0))).1.N=1
     .rw[if_pos (by simp_all),if_pos h1,i1,daa,Nq];exact b1.p (n+1) (by omega)
     .rw[if_neg (by simp_all),if_neg h1,c3,daa,Nq];exact c1.p (n+1) (by omega)
    grind
   .obtain⟨n,rfl⟩:∃m,n=m+3:=⟨n-3,by omega⟩;show ni (Ba (n+2)).1 (Ba (n+2)).2 _ _ _=_;unfold ni;rw[gp h hi,daa,Aa hi,daa,Ld hi,IP,decide_eq_true hlz,if_pos rfl,Nq];show uo (Ba (n+1)).1 (Ba (n+1)).2 _ _ _ _=_;unfold uo Dx;rw[Aa hi,daa,Ld hi];by_cases hN0:(ua e i).N=0
    case neg=>simp_all
    rw[if_neg (xaa.2 hN0),if_neg (xaa.2 hN0),i0,daa,b0.r (n+1) (by omega),daa];simp only[wX];obtain⟨q0,hq0⟩:∃q,QE e env (Lf e i 0)=q:=⟨_,rfl⟩;rw[hq0];by_cases c0:q0.2=0
    case neg=>
     simp_all[xk]
    rw[if_neg (xaa.2 c0)];by_cases c1:q0.1.Kind=1/\Bd q0.1
    case neg=>
     have:xk q0=(⟨0,0,0⟩,8):=by simp_all[xk]
     simp_all
    have hbq:xk q0=q0:=by simp_all[xk]
    rw[decide_eq_false (p:=¬(q0.1.Kind=1/\Bd q0.1)) (λh=>h c1),if_neg (by simp),hbq,if_neg (xaa.2 c0)];by_cases h26:(ua e i).Op=26
    .obtain⟨d1,d2,d3⟩:=hb2 h26;rw[if_pos h26,if_pos h26,if_pos h26];by_cases h1:q0.1.N=1
     .rw[if_pos h1,if_pos h1,i1,daa,Nq];exact b1.r (n+1) (by omega)
     .rw[if_neg h1,if_neg h1,d3,daa,Nq];exact d1.r (n+1) (by omega)
    .rw[if_neg h26,if_neg h26];split
     .rfl
     .rw[i1,daa,b1.r (n+1) (by omega),daa];obtain⟨q1,hq1⟩:∃q,QE e env (Lf e i 1)=q:=⟨_,rfl⟩;rw[hq1];unfold xk
      grind
  .obtain⟨q,q1,q2,q3⟩:=hA i hi hlz;have hff:∀v,ff (nG e env i) (Pb e i)=some v->v.2≠0:=by
    grind[nG,Sa]
   refine HI (match ff (nG e env i) (Pb e i)with|some v=>v|none=>q) (λn hn=>?_) (λn hn=>?_) ?_
   .obtain⟨n,rfl⟩:∃m,n=m+1:=⟨n-1,by omega⟩;show Ra (ca n).1 (ca n).2.1 (ca n).2.2 _ _=_;unfold Ra;dsimp only;rw[Aa hi,daa,Ld hi,Rm h hi,daa,gL,decide_eq_false hlz,if_neg (by simp),hops,GA (by omega) (by omega),daa,hX h hi (λj hj=>(ih j hj (by omega)).p n (by omega)),daa]
    grind[jK,kK]
   .obtain⟨n,rfl⟩:∃m,n=m+1:=⟨n-1,by omega⟩;show ni (Ba n).1 (Ba n).2 _ _ _=_;unfold ni;rw[gp h hi,daa,Aa hi,daa,Ld hi,IP,decide_eq_false hlz,if_neg (by simp),iX h hi (λj hj=>(ih j hj (by omega)).r n (by omega)),daa]
    grind[jK,kK]
   grind
theorem XR{e:List GNode}{env:GEnv}(h:Wst e) (hb:NodeB e env (e.length-1)):∃p,cc e env=some p/\lp e env=some p/\(p.2=0->Bd p.1):=by
 have hf:1000000<=vd:=by grind[vd]
 have hp:=h.pos;have hle:=h.le;unfold cc lp sh dr;rw[Fi,qo];simp only[daa];rw[vp h];have e1:da .i64 ((e.length:Int)-1)=((e.length-1:Nat):Int):=by grind[wid]
 unfold Af jt;rw[e1];dsimp only;rw[if_neg (by decide),if_neg (by decide),hb.p _ (by omega),hb.r _ (by omega)];exact⟨_,rfl,rfl,hb.ok⟩
theorem XN{l:List GValue}(hl:l.length<=1048576):Jd l=some (l.all Cn):=by
 have e1:fa (Qb l) 0=some (Mb () (ff (λi=>if(l[i]?.any λv=>!Cn v)=true then some false else none) l.length)):=
  Lb (λi=>(i:Int)) _ l.length () (λi hi _=>by
   unfold Qb;rw[if_pos (by omega),Aa hi,faa hi]
   grind[pD,fc,ya]) (λ_=>by grind[Qb])
 unfold Jd;rw[e1];by_cases h:l.all Cn=true
 .have hn:∀i,i<l.length->(l[i]?.any λv=>!Cn v)=false:=by
   simp_all
  rw[Ob.2 (λi hi=>by simp_all),h];rfl
 .have hb:l.all Cn=false:=by simp_all
  obtain⟨x,hx,hx2⟩:∃x∈l,Cn x=false:=by
   simp_all
  obtain⟨k,hk,rfl⟩:=Daa hx;have ne:ff (λi=>if(l[i]?.any λv=>!Cn v)=true then some false else none) l.length=some false:=by
   cases hf:ff (λi=>if(l[i]?.any λv=>!Cn v)=true then some false else none) l.length with
   |none=>
    grind[Ob]
   |some w=>
    obtain⟨i,_,h2,_⟩:=Sa.1 hf
    simp_all
  rw[ne,hb];rfl
theorem KH{n:GNode}{args:List GValue}{env:GEnv}(ha:args.length<=3) (h:1<=n.Op/\n.Op<=39->gb n.Op=args.length->JN n=true->Jo n env=true->(∀a∈args,Bd a)->BE (Nc n args env)):BE (Wa n args env):=by
 unfold Wa;rw[Jw,Jf,It,XN (l:=args) (by omega)];simp only[daa];have err:∀{c:Int},c≠0->BE (some (⟨0,0,0⟩,c)):=λh=>⟨_,rfl,λh2=>absurd h2 h⟩;by_cases h1:1<=n.Op/\n.Op<=39
 case neg=>grind
 rw[decide_eq_true h1];simp only[Zaa];by_cases h2:JN n=true
 case neg=>simp_all
 rw[h2];simp only[if_true];by_cases h3:gb n.Op=args.length
 case neg=>
  grind
 have:((args.length:Int) !=gb n.Op)=false:=by grind
 rw[this];simp only[daa,maa,if_false];by_cases h4:Jo n env=true
 case neg=>simp_all
 rw[h4];simp only[waa,if_false];by_cases h5:args.all Cn=true
 case neg=>grind
 rw[h5];simp only[if_true];have hp:∀a∈args,Bd a:=λa ha=>of_decide_eq_true (Uaa.1 h5 a ha);have hc:=h h1 h3 h2 h4 hp;have e1:(eaa (α:=Bool) ((sa n args env).bind λx10=>some (!x10)) λj11=>if j11=true then some ((⟨0,0,0⟩:GValue),(8:Int))else(Ga n args env).bind λx13=>if¬x13.2=0 then some (⟨0,0,0⟩,x13.2)else(Kb x13.1).bind λx15=>if x15=false then some (⟨0,0,0⟩,3)else some (x13.1,0))=Nc n args env:=by
  unfold Nc
  cases sa n args env with
  |none=>rfl
  |some b=>
   grind[fc]
 simp_all
noncomputable def vn(e:List GNode) (env:GEnv) (i:Nat):GValue×Int:=((ca (3*i+3)).1 ⟨e,(Be e e.length).1,env⟩ i).getD (⟨0,0,0⟩,0)
noncomputable def Jn(e:List GNode) (env:GEnv) (i:Nat):List GValue:=(yaa (Pb e i)).map λt=>(vn e env (Lf e i t)).1
noncomputable def Oy(e:List GNode) (env:GEnv) (i:Nat) (t:Nat):Option (GValue×Int):=if¬(vn e env (Lf e i t)).2=0 then some (⟨0,0,0⟩,(vn e env (Lf e i t)).2)else none
noncomputable def RJ(e:List GNode) (env:GEnv) (i:Nat):GValue×Int:=
 if(ua e i).Op=23\/(ua e i).Op=24\/(ua e i).Op=26 then
  Dx (ua e i).Op (ua e i).N (vn e env (Lf e i 0)) (vn e env (Lf e i 1)) (if(ua e i).Op=26 then vn e env (Lf e i 2)else(⟨0,0,0⟩,1))
 else match ff (Oy e env i) (Pb e i)with
  |some v=>v
  |none=>(Wa (ua e i) (Jn e env i) env).getD (⟨0,0,0⟩,0)
structure NodeP (e:List GNode) (env:GEnv) (i:Nat):Prop where
 p:∀n,3*i+3<=n->(ca n).1 ⟨e,(Be e e.length).1,env⟩ i=some (vn e env i)
 ok:(vn e env i).2=0->Bd (vn e env i).1
 q:vn e env i=RJ e env i
theorem II{e:List GNode}{env:GEnv}{i:Nat}(h1:∀n,3*i+3<=n->(ca n).1 ⟨e,(Be e e.length).1,env⟩ i=some (RJ e env i)) (h3:(RJ e env i).2=0->Bd (RJ e env i).1):NodeP e env i:=by
 have:vn e env i=RJ e env i:=by
  simp_all[vn]
 exact⟨by simp_all,by simp_all,this⟩
theorem jS{e:List GNode}{env:GEnv}(h:Wst e) {i:Nat}(hi:i<e.length) {n:Nat}(ih:∀j,j<i->(ca n).1 ⟨e,(Be e e.length).1,env⟩ j=some (vn e env j)) :
 fa (Va ⟨e,(Be e e.length).1,env⟩ (qu e i) (ca n).1) (jaa (Pb e i) ⟨0,0,0⟩,0)=some (Mb (Jn e env i) (ff (Oy e env i) (Pb e i))):=by
 have hl:=Gz e i;have h3:=Dt e i;refine Lb (step:=Va ⟨e,(Be e e.length).1,env⟩ (qu e i) (ca n).1) (λt=>((Jn e env i).take t++jaa (Pb e i-t) ⟨0,0,0⟩,(t:Int))) (Oy e env i) (Pb e i) (Jn e env i) (λt ht _=>?_) (λ_=>?_) (by simp)
 .obtain⟨o1,-⟩:=Mf h hi ht;have hlen:(Jn e env i).length=Pb e i:=by simp[Jn]
  unfold Va;dsimp only;rw[if_pos (by omega),Zq ht,daa,ih _ o1,daa];unfold Oy;by_cases hc:(vn e env (Lf e i t)).2=0
  .rw[if_neg (xaa.2 hc),if_neg (xaa.2 hc)];rw[Aa (by grind),daa,ry (by grind),daa,ya (by omega)];unfold pD;dsimp only;congr 3;rw[iac _ _ (by grind),show t-((Jn e env i).take t).length=0 by grind,show Pb e i-t=(Pb e i-(t+1))+1 by omega,iab,Pab]
   grind[Jn,sy]
  .rw[if_pos hc,if_pos hc];rfl
 .unfold Va;dsimp only;rw[if_neg (by omega),Qab];have hlen:(Jn e env i).length=Pb e i:=by simp[Jn]
  grind
theorem gK{e:List GNode}(h:Wst e) {env:GEnv}(hA:∀i,i<e.length->¬((ua e i).Op=23\/(ua e i).Op=24\/(ua e i).Op=26)->BE (Wa (ua e i) (Jn e env i) env)):∀i,i<e.length->NodeP e env i:=by
 intro i
 induction i using lac with
 |_ i ih=>
  intro hi;have hle:=h.le;have har:=h.ar hi;have hga:=Dt e i;have hops:=Gz e i;by_cases hlz:(ua e i).Op=23\/(ua e i).Op=24\/(ua e i).Op=26
  .have hk:2<=Pb e i/\((ua e i).Op=26->Pb e i=3):=by
    unfold Pb;rcases hlz with h|h|h<;>rw[h]<;>decide
   have o0:=(Mf h hi (j:=0) (by omega)).1;have o1:=(Mf h hi (j:=1) (by omega)).1;have b0:=ih _ o0 (by omega);have b1:=ih _ o1 (by omega);have i0:idx (qu e i) 0=some ((Lf e i 0:Nat):Int):=Zq (t:=0) (by omega);have i1:idx (qu e i) 1=some ((Lf e i 1:Nat):Int):=Zq (t:=1) (by omega);have hb2:(ua e i).Op=26->NodeP e env (Lf e i 2)/\Lf e i 2<i/\idx (qu e i) 2=some ((Lf e i 2:Nat):Int):=λh26=>by
    grind[Mf,Zq]
   have hq:RJ e env i=_:=if_pos hlz;refine II (λn hn=>?_) (by
    rw[hq];exact CI b1.ok (by
     split
     .rename_i h26;exact(hb2 h26).1.ok
     omega))
   rw[hq];obtain⟨n,rfl⟩:∃m,n=m+3:=⟨n-3,by omega⟩;show Ra (ca (n+2)).1 (ca (n+2)).2.1 (ca (n+2)).2.2 _ _=_;unfold Ra;dsimp only;rw[Aa hi,daa,Ld hi,Rm h hi,daa,gL,decide_eq_true hlz,if_pos rfl,Nq];show jc (ca (n+1)).1 (ca (n+1)).2.1 (ca (n+1)).2.2 _ _ _=_;unfold jc Dx;by_cases hN0:(ua e i).N=0
   case neg=>simp_all
   rw[if_neg (xaa.2 hN0),if_neg (xaa.2 hN0),i0,daa];have hbo:∀j,j<i->NodeP e env j->(ca (n+1)).2.2 ⟨e,(Be e e.length).1,env⟩ (j:Int)=some (xk (vn e env j)):=λj hj hb=>(show xb (ca n).1 (ca n).2.1 (ca n).2.2 _ _=_ from iO (hb.p n (by omega)));rw[hbo _ o0 b0,daa];by_cases hc:(xk (vn e env (Lf e i 0))).2=0
   case neg=>simp_all
   rw[if_neg (xaa.2 hc),if_neg (xaa.2 hc)];by_cases h26:(ua e i).Op=26
   .obtain⟨c1,c2,c3⟩:=hb2 h26;rw[if_pos h26,if_pos h26,daa,if_pos h26,if_pos h26];by_cases h1:(xk (vn e env (Lf e i 0))).1.N=1
    .rw[if_pos (by simp_all),if_pos h1,i1,daa,Nq];exact b1.p (n+1) (by omega)
    .rw[if_neg (by simp_all),if_neg h1,c3,daa,Nq];exact c1.p (n+1) (by omega)
   grind
  .obtain⟨q,q1,q3⟩:=hA i hi hlz;have hff:∀v,ff (Oy e env i) (Pb e i)=some v->v.2≠0:=by
    grind[Oy,Sa]
   have hq:RJ e env i=(match ff (Oy e env i) (Pb e i)with|some v=>v|none=>q):=by
    simp_all[RJ]
   refine II (λn hn=>?_) ?_
   .rw[hq];obtain⟨n,rfl⟩:∃m,n=m+1:=⟨n-1,by omega⟩;show Ra (ca n).1 (ca n).2.1 (ca n).2.2 _ _=_;unfold Ra;dsimp only;rw[Aa hi,daa,Ld hi,Rm h hi,daa,gL,decide_eq_false hlz,if_neg (by simp),hops,GA (by omega) (by omega),daa,jS h hi (λj hj=>(ih j hj (by omega)).p n (by omega)),daa]
    grind[jK,kK]
   grind
theorem PN{e:List GNode}{env:GEnv}(h:Wst e) (hb:NodeP e env (e.length-1)):cc e env=some (vn e env (e.length-1))/\((vn e env (e.length-1)).2=0->Bd (vn e env (e.length-1)).1):=by
 have hf:1000000<=vd:=by grind[vd]
 have hp:=h.pos;have hle:=h.le;unfold cc sh;rw[Fi];simp only[daa];rw[vp h];have e1:da .i64 ((e.length:Int)-1)=((e.length-1:Nat):Int):=by grind[wid]
 unfold Af;rw[e1];dsimp only;rw[if_neg (by decide),hb.p _ (by omega)];exact⟨rfl,hb.ok⟩
theorem Tl{n:GNode}{args:List GValue}{env:GEnv}(ha:args.length<=3):Wa n args env=if 1<=n.Op/\n.Op<=39/\JN n=true/\gb n.Op=args.length then(if Jo n env=true then(if args.all Cn=true then Nc n args env else some (⟨0,0,0⟩,8))else some (⟨0,0,0⟩,6))else some (⟨0,0,0⟩,2):=by
 by_cases h1:1<=n.Op/\n.Op<=39/\JN n=true/\gb n.Op=args.length
 .rw[if_pos h1];unfold Wa;rw[Jw,Jf,It,XN (l:=args) (by omega),decide_eq_true ⟨h1.1,h1.2.1⟩,h1.2.2.1];have hb:((args.length:Int) !=gb n.Op)=false:=by simp_all
  simp only[daa,Bool.and_self,if_true,hb,maa,if_false];cases Jo n env
  .rfl
  cases args.all Cn
  .rfl
  simp only[daa,if_true,maa,waa,if_false];unfold Nc
  cases sa n args env with
  |none=>rfl
  |some b=>
   grind[fc]
 .rw[if_neg h1];unfold Wa;rw[Jw,Jf]
  grind
def IE(op a b:Int):Bool:=if op=19 then a==b else if op=20 then a !=b else if op=21 then decide (a<b)else decide (a<=b)
def trV(b:Bool):GValue×Int:=(⟨1,0,if b=true then 1 else 0⟩,0)
theorem JC{op N:Int}{a b:GValue}{env:GEnv}(hop:19<=op/\op<=22):Nc ⟨op,N⟩ [a,b] env=some (if nH a b/\(21<=op->2<=a.Kind/\a.Kind<=5)then trV (IE op a.N b.N)else(⟨0,0,0⟩,8)):=by
 have hk:(2<=a.Kind/\a.Kind<=5)↔((2<=a.Kind/\a.Kind<=4)\/a.Kind=5):=by omega
 have hal:sa ⟨op,N⟩ [a,b] env=some (decide (nH a b/\(21<=op->2<=a.Kind/\a.Kind<=5))):=by
  rw[YN (by omega)];rcases(by omega:op=19\/op=20\/op=21\/op=22)with rfl|rfl|rfl|rfl<;>simp only[Sb,naa,if_true,if_false,daa,Gj,xq,zG,oaa,maa,hk]
  all_goals grind
 have hc:Ga ⟨op,N⟩ [a,b] env=some (⟨1,0,if IE op a.N b.N=true then 1 else 0⟩,0):=by
  rw[xG (by omega)];rcases(by omega:op=19\/op=20\/op=21\/op=22)with rfl|rfl|rfl|rfl<;>simp only[qd,IE,naa,oaa,if_true,if_false,maa,daa,bd]
 by_cases h:nH a b/\(21<=op->2<=a.Kind/\a.Kind<=5)
 .rw[decide_eq_true h]at hal;rw[yr hal hc,if_pos h,if_pos rfl,kn];rfl
 simp_all[Wy,if_neg]
theorem QH{N:Int}{a:GValue}{env:GEnv}:Nc ⟨25,N⟩ [a] env=some (if a.Kind=1 then trV (a.N==0)else(⟨0,0,0⟩,8)):=by
 by_cases hn:a.Kind=1
 .rw[yr (v:=⟨1,0,if(a.N==0)=true then 1 else 0⟩) (e:=0) (by grind[sa,mc,qg]) (by simp only[Ga,naa,if_false,daa,oaa,maa,qg,Yo,bd,Jaa,bab,if_true,jab,Zac]),if_pos hn,if_pos rfl,kn];rfl
 simp_all[sa,mc,Wy,qg]
theorem oA{op N:Int}{env:GEnv}(h:1<=op/\op<=5):Nc ⟨op,N⟩ [] env=some (Ak ⟨op,0,N⟩):=by
 rw[yr (v:=⟨op,0,N⟩) (e:=0) (by rcases(by omega:op=1\/op=2\/op=3\/op=4\/op=5)with rfl|rfl|rfl|rfl|rfl<;>simp[sa]) (by rcases(by omega:op=1\/op=2\/op=3\/op=4\/op=5)with rfl|rfl|rfl|rfl|rfl<;>simp[Ga]),if_pos rfl]
theorem BF{N:Int}{env:GEnv}:Nc ⟨6,N⟩ [] env=some (Ak ⟨6,da .i64 (Faa N 16),Qaa N 16⟩):=by
 rw[yr (v:=⟨6,da .i64 (Faa N 16),Qaa N 16⟩) (e:=0) (by simp[sa]) (by simp[Ga]),if_pos rfl]
theorem Xy{N:Int}{env:GEnv}{v:GValue}(hi:idx env.Inputs N=some v) (hv:Cn v=true):Nc ⟨7,N⟩ [] env=some (v,0):=by
 rw[yr (v:=v) (e:=0) (by grind[sa,fc]) (by grind[Ga]),if_pos rfl]
 simp_all[Ak]
def zm(op:Int):Prop:=op=1\/op=7\/op=25\/(2<=op/\op<=6)\/(19<=op/\op<=22)
theorem nz{e:List GNode}{i:Nat}(h:Un e i=true):zm (ua e i).Op\/(ua e i).Op=23\/(ua e i).Op=24:=by
 unfold Un Rx Cz at h;unfold zm
 grind
theorem iD{n:GNode}{args:List GValue}{env:GEnv}(hl:args.length<=3) (ho:zm n.Op):BE (Wa n args env):=by
 refine KH hl λh1 h2 h3 h4 h5=>?_;obtain⟨op,N⟩:=n;dsimp only at h1 h2 ho;have h2':args.length=(gb op).toNat:=by omega
 unfold zm at ho;rcases(by omega:op=1\/op=2\/op=3\/op=4\/op=5\/op=6\/op=7\/op=25\/op=19\/op=20\/op=21\/op=22)with rfl|rfl|rfl|rfl|rfl|rfl|rfl|rfl|rfl|rfl|rfl|rfl
 all_goals
  first
  |(obtain rfl:=List.length_eq_zero_iff.1 h2';first|exact CN (by omega)|exact yV|exact zV h4)
  |(match args,h2' with|[a],_=>exact AR (h5 a (by simp)))
  |(match args,h2' with|[a,b],_=>grind[yR,zR])
def DH(e:List GNode) (k:Int) (v w:GValue):Prop:=
 v=w\/(v.Kind=w.Kind/\v.Enum=w.Enum/\2<=v.Kind/\v.Kind<=5/\∀i,i<e.length->Rx (ua e i).Op=true->∀c,sx e i=some (k,c)->c.Op≠6->(v.N<c.N↔w.N<c.N)/\(c.N<v.N↔c.N<w.N))
structure InSame (e:List GNode) (a b:List GValue):Prop where
 len:a.length=b.length
 pl:∀v∈a,Bd v
 pr:∀v∈b,Bd v
 sm:∀(k:Nat) v w,(∃i,i<e.length/\(ua e i).Op=7/\(ua e i).N=(k:Int))->a[k]?=some v->b[k]?=some w->DH e k v w
structure NodeS (e:List GNode) (x y:GEnv) (i:Nat):Prop where
 px:NodeP e x i
 py:NodeP e y i
 eq:vn e x i=vn e y i\/((ua e i).Op=7/\(vn e x i).2=0/\(vn e y i).2=0/\DH e (ua e i).N (vn e x i).1 (vn e y i).1)
theorem DH.kind{e:List GNode}{k:Int}{v w:GValue}(h:DH e k v w):v=w\/(v.Kind=w.Kind/\v.Enum=w.Enum/\2<=v.Kind/\v.Kind<=5):=by
 rcases h with h|⟨h1,h2,h3,h4,-⟩
 all_goals simp_all
theorem NodeS.bool{e:List GNode}{x y:GEnv}{i:Nat}(h:NodeS e x y i):xk (vn e x i)=xk (vn e y i):=by
 rcases h.eq with h|⟨-,h1,h2,h3⟩
 .rw[h]
 .rcases h3.kind with h3|⟨k1,-,k2,k3⟩
  all_goals grind[xk]
theorem NodeS.err{e:List GNode}{x y:GEnv}{i:Nat}(h:NodeS e x y i):(vn e x i).2=(vn e y i).2:=by
 rcases h.eq with h|⟨-,h1,h2,-⟩
 all_goals simp_all
theorem UL{e:List GNode}{x y:GEnv}{i:Nat}(h:∀t,t<Pb e i->NodeS e x y (Lf e i t)):ff (Oy e x i) (Pb e i)=ff (Oy e y i) (Pb e i):=
 jI λt ht=>by unfold Oy;rw[(h t ht).err]
theorem jD{n:GNode}{x y:GEnv}(h:zm n.Op) (h7:n.Op≠7):Jo n x=Jo n y:=by
 unfold zm at h
 grind[Jo]
theorem J1{e:List GNode}{x:GEnv}{i:Nat}(h:Pb e i=1):Jn e x i=[(vn e x (Lf e i 0)).1]:=by grind[Jn]
theorem K1{e:List GNode}{x:GEnv}{i:Nat}(h:Pb e i=2):Jn e x i=[(vn e x (Lf e i 0)).1,(vn e x (Lf e i 1)).1]:=by unfold Jn;rw[h];rfl
theorem PH{v w c:Int}(h:(v<c↔w<c)/\(c<v↔c<w)) (op:Int):IE op v c=IE op w c/\IE op c v=IE op c w:=by
 have h3:v=c↔w=c:=by omega
 grind[IE]
theorem iI{e:List GNode}{x:GEnv}{i:Nat}(h:(ua e i).Op=23\/(ua e i).Op=24):RJ e x i=Dx (ua e i).Op (ua e i).N (vn e x (Lf e i 0)) (vn e x (Lf e i 1)) (⟨0,0,0⟩,1):=by
 grind[RJ]
theorem JG{e:List GNode}{x:GEnv}{i:Nat}(h:zm (ua e i).Op):RJ e x i=(match ff (Oy e x i) (Pb e i)with|some v=>v|none=>(Wa (ua e i) (Jn e x i) x).getD (⟨0,0,0⟩,0)):=by
 unfold zm at h
 grind[RJ]
theorem pW{ρ:Type}{f:Nat->Option ρ}:ff f 0=none:=by grind[ff]
theorem ap0{n:GNode}{x y:GEnv}(h:1<=n.Op/\n.Op<=6):Wa n [] x=Wa n [] y:=by
 rw[Tl (by simp),Tl (by simp),jD (x:=x) (y:=y) (by unfold zm;omega) (by omega)];obtain⟨op,N⟩:=n
 grind[BF,oA]
theorem ap1{n:GNode}{x y:GEnv}(h:n.Op=25) {a b:GValue}(hp:Cn a=Cn b) (hab:a=b\/(a.Kind=b.Kind/\2<=a.Kind)):Wa n [a] x=Wa n [b] y:=by
 rw[Tl (by simp),Tl (by simp),jD (x:=x) (y:=y) (by unfold zm;omega) (by omega)];obtain⟨op,N⟩:=n;dsimp only at h;subst h;have:Nc ⟨25,N⟩ [a] x=Nc ⟨25,N⟩ [b] y:=by
  rw[QH,QH]
  grind
 simp_all
theorem ap2{n:GNode}{x y:GEnv}(h:19<=n.Op/\n.Op<=22) {a a' b b':GValue}(hp:Cn a=Cn a') (hq:Cn b=Cn b') (ha:a.Kind=a'.Kind/\a.Enum=a'.Enum) (hb:b.Kind=b'.Kind/\b.Enum=b'.Enum)
 (hc:nH a b->IE n.Op a.N b.N=IE n.Op a'.N b'.N):Wa n [a,b] x=Wa n [a',b'] y:=by
 rw[Tl (by simp),Tl (by simp),jD (x:=x) (y:=y) (by unfold zm;omega) (by omega)];obtain⟨op,N⟩:=n;have:Nc ⟨op,N⟩ [a,b] x=Nc ⟨op,N⟩ [a',b'] y:=by
  rw[JC h,JC h];by_cases hs:nH a b
  .have hs':nH a' b':=by unfold nH at hs⊢;omega
   simp_all
  .have hs':¬nH a' b':=by unfold nH at hs⊢;omega
   simp_all
 simp_all
theorem iL{e:List GNode}{z:GEnv}{j:Nat}(hp:NodeP e z j) (hl:Cz (ua e j).Op=true) (h0:(vn e z j).2=0):((ua e j).Op=6/\(vn e z j).1.Kind=6)\/((ua e j).Op≠6/\(vn e z j).1.N=(ua e j).N):=by
 unfold Cz at hl;simp only[paa,decide_eq_true_eq]at hl;have har:Pb e j=0:=by
  unfold Pb;rcases(by omega:(ua e j).Op=2\/(ua e j).Op=3\/(ua e j).Op=4\/(ua e j).Op=5\/(ua e j).Op=6)with h|h|h|h|h<;>rw[h]<;>decide
 have ax:Jn e z j=[]:=by grind[Jn]
 have hm:∀v:GValue,(Ak v).2=0->(Ak v).1=v:=λv h=>by
  grind[Ak]
 have key:vn e z j=Ak (if(ua e j).Op=6 then⟨6,da .i64 (Faa (ua e j).N 16),Qaa (ua e j).N 16⟩else⟨(ua e j).Op,0,(ua e j).N⟩):=by
  have hq:vn e z j=(Wa (ua e j) [] z).getD (⟨0,0,0⟩,0):=by
   rw[hp.q,JG (by unfold zm;omega),har,pW,ax]
  rw[hq,Tl (by simp)]at h0⊢;split at h0
  .split at h0
   .have al:([]:List GValue).all Cn=true:=rfl;rename_i h1 h2;rw[if_pos h1,if_pos h2,if_pos al];by_cases h6:(ua e j).Op=6
    .rw[if_pos h6,show Nc (ua e j) [] z=Nc ⟨6,(ua e j).N⟩ [] z by rw[←h6],BF];rfl
    .rw[if_neg h6,show Nc (ua e j) [] z=some (Ak ⟨(ua e j).Op,0,(ua e j).N⟩)from oA (op:=(ua e j).Op) (N:=(ua e j).N) (by omega)];rfl
   simp_all
  simp_all
 grind
theorem EM{e:List GNode}(h:Wst e) (hf:∀i,i<e.length->Un e i=true) {x y:GEnv}(hs:InSame e x.Inputs y.Inputs):∀i,i<e.length->NodeS e x y i:=by
 intro i
 induction i using lac with
 |_ i ih=>
  intro hi;have hga:=Dt e i;have px:=gK h (env:=x) (λj hj hl=>iD (by grind[Jn,Dt]) ((nz (hf j hj)).resolve_right λh=>hl (by omega))) i hi;have py:=gK h (env:=y) (λj hj hl=>iD (by grind[Jn,Dt]) ((nz (hf j hj)).resolve_right λh=>hl (by omega))) i hi;refine⟨px,py,?_⟩;have hop:∀t,t<Pb e i->NodeS e x y (Lf e i t):=λt ht=>ih _ (Mf h hi ht).1 (by have:=(Mf h hi ht).1;omega);rw[px.q,py.q];by_cases hl:(ua e i).Op=23\/(ua e i).Op=24
  .have hk:2=Pb e i:=by unfold Pb;rcases hl with h|h<;>rw[h]<;>decide
   left;rw[iI hl,iI hl];unfold Dx;rw[(hop 0 (by omega)).bool,(hop 1 (by omega)).bool,if_neg (c:=(ua e i).Op=26) (by omega),if_neg (c:=(ua e i).Op=26) (by omega)]
  .have ho:=(nz (hf i hi)).resolve_right hl;rw[JG ho,JG ho,UL hop]
   cases hff:ff (Oy e y i) (Pb e i)with
   |some v=>simp
   |none=>
    dsimp only;have hz:∀t,t<Pb e i->(vn e y (Lf e i t)).2=0:=λt ht=>by
     simp_all[Oy,Ob]
    have hzx:∀t,t<Pb e i->(vn e x (Lf e i t)).2=0:=λt ht=>(hop t ht).err.trans (hz t ht);have hpl:∀t,t<Pb e i->Cn (vn e x (Lf e i t)).1=Cn (vn e y (Lf e i t)).1:=λt ht=>by
     unfold Cn;rw[decide_eq_true ((hop t ht).px.ok (hzx t ht)),decide_eq_true ((hop t ht).py.ok (hz t ht))]
    have hv:∀t,t<Pb e i->(vn e x (Lf e i t)).1=(vn e y (Lf e i t)).1\/((ua e (Lf e i t)).Op=7/\DH e (ua e (Lf e i t)).N (vn e x (Lf e i t)).1 (vn e y (Lf e i t)).1):=λt ht=>by
     rcases(hop t ht).eq with h|⟨h1,-,-,h2⟩
     all_goals simp_all
    have hk:∀t,t<Pb e i->(vn e x (Lf e i t)).1.Kind=(vn e y (Lf e i t)).1.Kind/\(vn e x (Lf e i t)).1.Enum=(vn e y (Lf e i t)).1.Enum:=λt ht=>by
     rcases hv t ht with h|⟨-,h⟩
     .simp_all
     .rcases h.kind with h|h
      all_goals simp_all
    have ho':=ho;unfold zm at ho';by_cases h6:1<=(ua e i).Op/\(ua e i).Op<=6
    .have har:Pb e i=0:=by
      unfold Pb;rcases(by omega:(ua e i).Op=1\/(ua e i).Op=2\/(ua e i).Op=3\/(ua e i).Op=4\/(ua e i).Op=5\/(ua e i).Op=6)with h|h|h|h|h|h<;>rw[h]<;>decide
     grind[Jn,ap0]
    by_cases h25:(ua e i).Op=25
    .have har:Pb e i=1:=by unfold Pb;rw[h25];decide
     left;rw[J1 har,J1 har,ap1 (y:=y) h25 (hpl 0 (by omega))];rcases hv 0 (by omega)with h|⟨-,h⟩
     .simp_all
     .rcases h.kind with h|h
      all_goals grind
    by_cases h7:(ua e i).Op=7
    .have har:Pb e i=0:=by unfold Pb;rw[h7];decide
     have ax:∀z,Jn e z i=[]:=λz=>by grind[Jn]
     rw[ax,ax,Tl (by simp),Tl (by simp)];have hfn:Jo (ua e i) x=Jo (ua e i) y:=by unfold Jo;rw[if_pos h7,if_pos h7,hs.len]
     rw[hfn];split
     .by_cases hin:Jo (ua e i) y=true
      .unfold Jo at hin;rw[if_pos h7,decide_eq_true_eq]at hin;have hx:idx x.Inputs (ua e i).N=some (x.Inputs[(ua e i).N.toNat]'(by have:=hs.len;omega)):=Ij hin.1 (by have:=hs.len;omega);have hy:idx y.Inputs (ua e i).N=some (y.Inputs[(ua e i).N.toNat]'(by omega)):=Ij hin.1 hin.2;have hvx:=hs.pl _ (laa (l:=x.Inputs) (n:=(ua e i).N.toNat) (by grind));have hvy:=hs.pr _ (laa (l:=y.Inputs) (n:=(ua e i).N.toNat) (by omega));have hsm:=hs.sm (ua e i).N.toNat _ _ ⟨i,hi,h7,by omega⟩ (faa (by grind)) (faa (by omega));have e7:ua e i=⟨7,(ua e i).N⟩:=by rw[←h7]
       have eN:(((ua e i).N.toNat:Nat):Int)=(ua e i).N:=by omega
       rw[eN]at hsm;have al:([]:List GValue).all Cn=true:=rfl;have hfy:Jo (ua e i) y=true:=by grind[Jo]
       rw[if_pos hfy,if_pos hfy,if_pos al,if_pos al];have cx:=Xy hx (decide_eq_true hvx);have cy:=Xy hy (decide_eq_true hvy)
       grind
      simp_all
     simp
    .have har:Pb e i=2:=by
      unfold Pb;rcases(by omega:(ua e i).Op=19\/(ua e i).Op=20\/(ua e i).Op=21\/(ua e i).Op=22)with h|h|h|h<;>rw[h]<;>decide
     left;have hcb:Rx (ua e i).Op=true:=by grind[Rx]
     have hfl:=hf i hi;unfold Un at hfl;rw[if_pos hcb]at hfl;have k0:=hk 0 (by omega);have k1:=hk 1 (by omega);rw[K1 har,K1 har,ap2 (y:=y) (by omega) (hpl 0 (by omega)) (hpl 1 (by omega)) k0 k1 λhsm=>?_]
     cases hsi:sx e i with
     |none=>simp_all
     |some v=>
      have hsi2:=hsi;unfold sx at hsi;rw[if_pos har]at hsi;split at hsi
      .rename_i hA;obtain rfl:=Iaa hsi;have h1:(vn e x (Lf e i 1)).1=(vn e y (Lf e i 1)).1:=(hv 1 (by omega)).resolve_right λh=>by grind[Cz]
       have hlv:=iL (hop 1 (by omega)).py hA.2 (hz 1 (by omega));rw[h1]at hsm⊢;rcases hv 0 (by omega)with h0|⟨-,h0|⟨a1,a2,a3,a4,a5⟩⟩
       .rw[h0]
       .rw[h0]
       .rcases hlv with⟨-,b⟩|⟨b1,b2⟩
        .exact absurd hsm.1 (by omega)
        grind[PH]
      .split at hsi
       .rename_i hA;obtain rfl:=Iaa hsi;have h1:(vn e x (Lf e i 0)).1=(vn e y (Lf e i 0)).1:=(hv 0 (by omega)).resolve_right λh=>by simp_all
        have hlv:=iL (hop 0 (by omega)).py hA.2 (hz 0 (by omega));rw[h1]at hsm⊢;rcases hv 1 (by omega)with h0|⟨-,h0|⟨a1,a2,a3,a4,a5⟩⟩
        .rw[h0]
        .rw[h0]
        .rcases hlv with⟨-,b⟩|⟨b1,b2⟩
         .exact absurd hsm.1 (by omega)
         .have:=a5 i hi hcb _ hsi2 b1;rw[b2];exact(PH this _).2
       simp_all
noncomputable def Mx(t0 t1:List Int) (i:Nat):Option Int:=
 match t0[i]?,t1[i]? with
 |some p,some q=>if p < -1\/(i:Int)<=p then some 9 else if q<0\/9<q then some 3 else none
 |_,_=>none
noncomputable def eA(t0 t1:List Int):Int:=
 if¬(t0.length:Int)=(t1.length:Int)then 2 else if 8<(t0.length:Int)then 4 else
 match ff (Mx t0 t1) t0.length with|some v=>v|none=>0
theorem orO{a b:Prop} [Decidable a] [Decidable b] {α:Type}{k:Bool->Option α}:(eaa (α:=Bool) (if¬a then some (decide b)else some true) k)=k (decide (a\/b)):=by
 grind
theorem ox(t0 t1:List Int):Th t0 t1=some (eA t0 t1):=by
 unfold Th eA;by_cases hl:(t0.length:Int)=(t1.length:Int)
 case neg=>simp_all
 rw[if_neg (xaa.2 hl),if_neg (xaa.2 hl)];by_cases h8:8<(t0.length:Int)
 .simp_all
 rw[if_neg h8,if_neg h8];have e1:fa (Xe t0 t1) 0=some (Mb () (ff (Mx t0 t1) t0.length)):=
  Lb (λi=>(i:Int)) _ t0.length () (λi hi _=>by
   unfold Xe Mx;rw[if_pos (by omega),Aa hi,faa hi,faa (l:=t1) (by omega)];dsimp only;rw[daa,orO,Aa (l:=t1) (by omega),daa,orO,ya (by omega)]
   grind[pD]) (λ_=>by grind[Xe])
 rw[e1];cases ff (Mx t0 t1) t0.length<;>rfl
theorem NA(t0 t1:List Int):Dl t0 t1=some (eA t0 t1):=by
 unfold Dl eA;by_cases hl:(t0.length:Int)=(t1.length:Int)
 case neg=>simp_all
 rw[if_neg (xaa.2 hl),if_neg (xaa.2 hl)];by_cases h8:8<(t0.length:Int)
 .simp_all
 rw[if_neg h8,if_neg h8];have e2:fa (Kh t0 t1) 0=some (Mb () (ff (Mx t0 t1) t0.length)):=
  Lb (λi=>(i:Int)) _ t0.length () (λi hi _=>by
   unfold Kh Mx;rw[if_pos (by omega),Aa hi,faa hi,faa (l:=t1) (by omega)];dsimp only;rw[daa,orO,Aa (l:=t1) (by omega),daa,orO,ya (by omega)]
   grind[pD]) (λ_=>by grind[Kh])
 rw[e2];cases ff (Mx t0 t1) t0.length<;>rfl
structure TreeOk (t0 t1:List Int):Prop where
 len:t0.length=t1.length
 le:t0.length<=8
 par:∀i (h:i<t0.length),-1<=t0[i]/\t0[i]<(i:Int)
theorem dG{t0 t1:List Int}(h:eA t0 t1=0):TreeOk t0 t1:=by
 unfold eA at h;by_cases hl:(t0.length:Int)=(t1.length:Int)
 case neg=>omega
 rw[if_neg (xaa.2 hl)]at h;by_cases h8:8<(t0.length:Int)
 .omega
 rw[if_neg h8]at h;refine⟨by omega,by omega,λi hi=>?_⟩;have hn:ff (Mx t0 t1) t0.length=none:=by
  grind[Mx,Sa]
 grind[Mx,Ob]
def iM(t0:List Int) (at_:Int):Nat->List Int
 |0=>[]
 |n+1=>if t0[n]?=some at_ then iM t0 at_ n++[(n:Int)]else iM t0 at_ n
def yx(t0:List Int) (at_:Int):List Int:=iM t0 at_ t0.length
theorem Ty(t0:List Int) (a:Int):∀n,(iM t0 a n).length<=n
 |0=>by simp[iM]
 |n+1=>by
  have:=Ty t0 a n
  grind[iM]
theorem Uy{t0:List Int}{a x:Int}:∀{n:Nat},x∈iM t0 a n->∃k:Nat,x=(k:Int)/\k<n/\t0[k]?=some a
 |0,h=>by grind[iM]
 |n+1,h=>by
  unfold iM at h;split at h
  .rename_i hn;rcases tab.1 h with h|h
   .obtain⟨k,a1,a2,a3⟩:=Uy h;grind
   grind
  .obtain⟨k,a1,a2,a3⟩:=Uy h;grind
theorem kx{t0:List Int}(hl:t0.length<=1048576) (a:Int):Rh t0 a=some (yx t0 a):=by
 have step:fa (We t0 a) (([]:List Int),0)=some (.inl (yx t0 a)):=by
  refine Xc (λi=>(iM t0 a i,(i:Int))) t0.length _ (λi hi=>?_) ?_ rfl
  .have h1:=Ty t0 a i;unfold We;dsimp only;rw[if_pos (by omega),Aa hi,daa,ya (by omega)];simp only[iM,faa hi,Laa];by_cases hc:t0[i]=a
   .rw[if_pos hc,if_pos hc,Hf (by grind)];rfl
   simp_all
  grind[We,yx]
 grind[Rh]
theorem MA{t0:List Int}(hl:t0.length<=1048576) (a:Int):Cl t0 a=some (yx t0 a):=by
 have step:fa (Jh t0 a) (([]:List Int),0)=some (.inl (yx t0 a)):=by
  refine Xc (λi=>(iM t0 a i,(i:Int))) t0.length _ (λi hi=>?_) ?_ rfl
  .have h1:=Ty t0 a i;unfold Jh;dsimp only;rw[if_pos (by omega),Aa hi,daa,ya (by omega)];simp only[iM,faa hi,Laa];by_cases hc:t0[i]=a
   .rw[if_pos hc,if_pos hc,Hf (by grind)];rfl
   simp_all
  grind[Jh,yx]
 grind[Cl]
def pri(t1:List Int) (x:Int):Int:=(t1[x.toNat]?).getD 0
def Jv(t1:List Int) (out:Int->Int) (acc:List Int) (x:Int):List Int:=
 if out x = -1 then acc else
 match acc with
 |[]=>[x]
 |y::l=>if pri t1 y<pri t1 x then [x]else if pri t1 x=pri t1 y then y::l++[x]else y::l
def ur(t1:List Int) (out:Int->Int) (l:List Int):List Int:=l.foldl (Jv t1 out) []
theorem Tt{t1:List Int}{out:Int->Int}{l:List Int}:∀x∈ur t1 out l,x∈l:=by
 have:∀(l acc:List Int),∀x∈l.foldl (Jv t1 out) acc,x∈acc\/x∈l:=by
  intro l
  induction l with
  |nil=>simp
  |cons y l ih=>
   intro acc x hx;rcases ih _ x hx with h|h
   .unfold Jv at h
    grind
   simp_all
 intro x hx;rcases this l [] x hx with h|h
 all_goals simp_all
theorem WL(t1:List Int) (out:Int->Int) (l:List Int):(ur t1 out l).length<=l.length:=by
 have:∀(l acc:List Int),(l.foldl (Jv t1 out) acc).length<=acc.length+l.length:=by
  intro l
  induction l with
  |nil=>simp
  |cons y l ih=>
   intro acc;refine Nat.le_trans (ih _) ?_;have:(Jv t1 out acc y).length<=acc.length+1:=by
    unfold Jv
    grind
   grind
 have h:=this l [];rw[bab,jab]at h;exact h
theorem rJ{t1:List Int}{out:Int->Int}{l:List Int}{x:Int}:ur t1 out (l++[x])=Jv t1 out (ur t1 out l) x:=by simp[ur]
theorem LH{t1:List Int}{o o':Int->Int}{l:List Int}(h:∀x∈l,o x=o' x):ur t1 o l=ur t1 o' l:=by
 have:∀(l acc:List Int),(∀x∈l,o x=o' x)->l.foldl (Jv t1 o) acc=l.foldl (Jv t1 o') acc:=by
  intro l
  induction l with
  |nil=>simp
  |cons y l ih=>
   simp_all[Jv]
 exact this l [] h
theorem vF{t1:List Int}{out:Int->Int}{l:List Int}(hl:l.length<=100) (hm:∀x∈l,0<=x/\x<(t1.length:Int)) {step:List Int×Int->Option (Ex (List Int×Int) (List Int) Unit)}{g:Int->Option Int}(hg:∀x∈l,g x=some (out x)) {mt:List Int->Option (List Int)}(hmt:∀q,mt q=some [])
 (hs:∀a b,step (a,b)=if b<(l.length:Int)then
  eaa (α:=(List Int)) (
   (idx l b).bind λx5=>(g x5).bind λx6=>if x6=(-1)then some a else
   eaa (α:=(List Int)) (eaa (α:=Bool) (if 0<(a.length:Int)then(idx t1 x5).bind λx9=>(idx a 0).bind λx10=>(idx t1 x10).bind λx11=>some (decide (x11<x9))else some false) λj12=>if j12=true then mt a else some a) λj15=>
   eaa (α:=Bool) (if¬(j15.length:Int)=0 then(idx t1 x5).bind λx17=>(idx j15 0).bind λx18=>(idx t1 x18).bind λx19=>some (x17==x19)else some true) λj20=>
   if j20=true then(app 8 j15 ([x5])).bind λx22=>some x22 else some j15) λj23=>some (Ex.go (j23,(da .i64 (b+1))))
  else some (Ex.brk a)):fa step (([]:List Int),0)=some (.inl (ur t1 out l)):=by
 refine Xc (λi=>(ur t1 out (l.take i),(i:Int))) l.length _ (λi hi=>?_) ?_ rfl
 .have h1:=WL t1 out (l.take i);have h2:(l.take i).length<=l.length:=by grind
  have hsub:∀y∈ur t1 out (l.take i),0<=y/\y<(t1.length:Int):=λy hy=>hm y (List.mem_of_mem_take (Tt y hy));rw[hs,if_pos (by omega),Aa hi,daa,hg _ (laa hi),daa,ya (by omega),Raa,faa hi];have hx:=hm _ (laa hi);simp only[Eab,rJ];generalize l[i]=x at hx⊢;have hpx:idx t1 x=some (pri t1 x):=by grind[pri,Ij]
  generalize ur t1 out (l.take i)=acc at h1 hsub⊢;unfold Jv;by_cases ho:out x = -1
  .simp_all
  rw[if_neg ho,if_neg ho];rcases acc with _|⟨y,r⟩
  .simp_all[Hf]
  .have hy:=hsub y (by simp);have hpy:idx t1 y=some (pri t1 y):=by grind[pri,Ij]
   have i0:∀(q:List Int),idx (y::q) 0=some y:=λq=>by simp[idx]
   dsimp only;rw[if_pos (by simp),hpx,i0,daa,daa,hpy,daa,daa];by_cases hlt:pri t1 y<pri t1 x
   .rw[if_pos (by simp_all),hmt,daa,if_neg (by simp),daa,if_pos rfl,Hf (by simp),if_pos hlt];rfl
   .rw[if_neg (by simp_all),daa,if_pos (by grind),daa,i0,daa,hpy,daa,daa,if_neg hlt];by_cases he:pri t1 x=pri t1 y
    .rw[if_pos (by simp_all),if_pos he,Hf (by grind)];rfl
    simp_all
 simp_all
def xH(t1:List Int) (out:Int->Int) (l:List Int):Int:=
 match ur t1 out l with
 |[]=>-1
 |[x]=>out x
 |_=>-2
theorem ZM{t1:List Int}{o o':Int->Int}{l:List Int}(h:∀x∈l,o x=o' x):xH t1 o l=xH t1 o' l:=by
 grind[xH,LH,Tt]
def oc(t0 t1:List Int) (t2:List Bool):Nat->Int->Int
 |0,_=>-1
 |k+1,i=>if xH t1 (oc t0 t1 t2 k) (yx t0 i) = -1/\(t2[i.toNat]?).getD false=true then i else xH t1 (oc t0 t1 t2 k) (yx t0 i)
theorem GC{t0 t1:List Int}(h:TreeOk t0 t1) {i x:Int}(hx:x∈yx t0 i):i<x/\0<=x/\x<(t0.length:Int):=by
 obtain⟨k,rfl,hk,hp⟩:=Uy hx;have:=h.par k hk
 simp_all
theorem XM{t0 t1:List Int}{t2:List Bool}(h:TreeOk t0 t1):∀(d:Nat) (i:Int),0<=i->(t0.length:Int)-i<=d->∀k k':Nat,(t0.length:Int)-i<=k->(t0.length:Int)-i<=k'->i<t0.length->oc t0 t1 t2 k i=oc t0 t1 t2 k' i:=by
 intro d
 induction d with
 |zero=>omega
 |succ d ih=>
  intro i h0 hd k k' hk hk' hi;obtain⟨k,rfl⟩:∃m,k=m+1:=⟨k-1,by omega⟩;obtain⟨k',rfl⟩:∃m,k'=m+1:=⟨k'-1,by omega⟩;have:xH t1 (oc t0 t1 t2 k) (yx t0 i)=xH t1 (oc t0 t1 t2 k') (yx t0 i):=ZM λx hx=>by
   have:=GC h hx
   grind
  grind[oc]
def O(t0 t1:List Int) (t2:List Bool) (i:Int):Int:=oc t0 t1 t2 t0.length i
theorem A1{t0 t1:List Int}{t2:List Bool}(h:TreeOk t0 t1) {i:Int}(h0:0<=i) (h1:i<t0.length):O t0 t1 t2 i=if xH t1 (O t0 t1 t2) (yx t0 i) = -1/\(t2[i.toNat]?).getD false=true then i else xH t1 (O t0 t1 t2) (yx t0 i):=by
 unfold O;rw[XM h t0.length i h0 (by omega) t0.length (t0.length+1) (by omega) (by omega) h1];rfl
noncomputable def dC(t0 t1:List Int) (t2:List Bool):Int:=if eA t0 t1=0/\t2.length=t0.length then xH t1 (O t0 t1 t2) (yx t0 (-1))else -1
theorem Fz{t0 t1 out:List Int}(h:TreeOk t0 t1) {f:Int->Int}{i:Int}(ho:∀x∈yx t0 i,idx out x=some (f x)):yb ⟨t0,t1,out⟩ i=some (xH t1 f (yx t0 i)):=by
 have hle:=h.le;have hlen:=h.len;have hcl:=Ty t0 i t0.length;unfold yb xj;dsimp only;rw[kx (by omega) i,daa];have hb:=vF (t1:=t1) (out:=f) (l:=yx t0 i) (by grind[yx]) (λx hx=>by have:=GC h hx;omega) (step:=Tg ⟨t0,t1,out⟩ (yx t0 i)) (g:=λx=>idx out x) ho (mt:=λq=>(Fs q 0).bind λx14=>some x14) (λq=>by rw[show(0:Int)=((0:Nat):Int)from rfl,xu (by omega)];rfl) (λa b=>by grind[Tg]);rw[hb];simp only[daa];unfold xH;have hs:=Tt (t1:=t1) (out:=f) (l:=yx t0 i);generalize ur t1 f (yx t0 i)=r at hs⊢;rcases r with _|⟨x,_|⟨y,q⟩⟩
 all_goals grind[idx]
theorem lK{t0 t1:List Int}{t2:List Bool}(h:TreeOk t0 t1) (h2:t2.length=t0.length):Uh t0 t1 t2=some ((yaa t0.length).map λ(k:Nat)=>O t0 t1 t2 (k:Int)):=by
 have hle:=h.le;unfold Uh;rw[GA (by omega) (by omega),daa,wid (by omega) (by omega)];have hl:fa (Ye t0 t1 t2) (jaa t0.length 0,(t0.length:Int)-1)=some (.inl ((yaa t0.length).map λ(k:Nat)=>O t0 t1 t2 (k:Int))):=by
  refine Xc (λt=>((yaa t0.length).map (λ(k:Nat)=>if k<t0.length-t then 0 else O t0 t1 t2 (k:Int)),(t0.length:Int)-1-t)) t0.length _ (λt ht=>?_) ?_ ?_
  .obtain⟨j,hj⟩:∃j,t0.length=t+j+1:=⟨t0.length-t-1,by omega⟩;have ej:(t0.length:Int)-1-t=(j:Int):=by omega
   have ej2:t0.length-t=j+1:=by omega
   have ej3:t0.length-(t+1)=j:=by omega
   skip
   rw[ej,ej2,ej3];unfold Ye;dsimp only;rw[if_pos (by omega)];have hof:yb ⟨t0,t1,(yaa t0.length).map (λ(k:Nat)=>if k<j+1 then 0 else O t0 t1 t2 (k:Int))⟩ (j:Int)=some (xH t1 (O t0 t1 t2) (yx t0 (j:Int))):=by
    refine Fz h λx hx=>?_;have:=GC h hx;obtain⟨k,rfl⟩:=Fab this.2.1;rw[Aa (by grind)]
    grind
   rw[hof,daa,Aa (by grind),daa,ry (by grind),daa];rw[Aa (by grind)];simp only[aad,daa];have hO:=A1 (t2:=t2) h (i:=(j:Int)) (by omega) (by omega);rw[qab,faa (by omega)]at hO;simp only[Option.getD_some]at hO;have hset:∀v,v=O t0 t1 t2 (j:Int)->((yaa t0.length).map (λ(k:Nat)=>if k<j+1 then 0 else O t0 t1 t2 (k:Int))).set j v=(yaa t0.length).map (λ(k:Nat)=>if k<j then 0 else O t0 t1 t2 (k:Int)):=by
    intro v hv;apply Bac
    all_goals grind
   have hw:da .i64 ((j:Int)-1)=(t0.length:Int)-1-((t+1:Nat):Int):=by grind[wid]
   by_cases hm:xH t1 (O t0 t1 t2) (yx t0 (j:Int)) = -1
   .rw[if_pos hm,Aa (l:=t2) (by omega),daa,daa];by_cases ha:t2[j]'(by omega)=true
    .rw[if_pos ha,ry (by grind),daa,daa,List.set_set,hset _ (by simp_all),hw]
    simp_all
   simp_all
  .grind[Ye]
  ·((try dsimp only))
   rw[Nat.sub_zero];congr 1
   .apply Bac
    all_goals simp_all
   .simp
 simp_all
theorem Qz(t0 t1:List Int) (t2:List Bool):Zj t0 t1 t2=some (dC t0 t1 t2):=by
 unfold Zj dC;rw[ox t0 t1,daa];by_cases hv:eA t0 t1=0
 case neg=>simp_all
 rw[if_pos hv,daa];by_cases h2:t2.length=t0.length
 case neg=>grind
 have h:=dG hv;rw[if_neg (by simp_all),if_pos ⟨hv,h2⟩,lK h h2,daa,Fz h (f:=O t0 t1 t2) λx hx=>by
  have:=GC h hx;obtain⟨k,rfl⟩:=Fab this.2.1
  grind[Aa]]
 rfl
theorem J9{t0 t1:List Int}{t2:List Bool}(h:TreeOk t0 t1) {n:Nat}{i:Int}(ho:∀x∈yx t0 i,(ma n).2.2 t0 t1 t2 x=some (O t0 t1 t2 x)):(ma (n+1)).2.1 t0 t1 t2 i=some (ur t1 (O t0 t1 t2) (yx t0 i)):=by
 have hle:=h.le;have hlen:=h.len;have hcl:=Ty t0 i t0.length;show wo (ma n).1 (ma n).2.1 (ma n).2.2 _ _ _ _=_;unfold wo;rw[MA (by omega) i,daa];have hb:=vF (t1:=t1) (out:=O t0 t1 t2) (l:=yx t0 i) (by grind[yx]) (λx hx=>by have:=GC h hx;omega) (step:=Kp t0 t1 t2 (yx t0 i) (ma n).2.2) (g:=λx=>(ma n).2.2 t0 t1 t2 x) ho (mt:=λq=>some []) (λq=>rfl) (λa b=>by grind[Kp])
 simp_all
theorem DW{t0 t1:List Int}{t2:List Bool}(h:TreeOk t0 t1) {n:Nat}{i:Int}(ho:∀x∈yx t0 i,∀m,n<=m->(ma m).2.2 t0 t1 t2 x=some (O t0 t1 t2 x)):(ma (n+2)).1 t0 t1 t2 i=some (xH t1 (O t0 t1 t2) (yx t0 i)):=by
 show Ti (ma (n+1)).1 (ma (n+1)).2.1 (ma (n+1)).2.2 _ _ _ _=_;unfold Ti;rw[J9 h λx hx=>ho x hx n (saa _),daa];unfold xH;have hs:=Tt (t1:=t1) (out:=O t0 t1 t2) (l:=yx t0 i);generalize ur t1 (O t0 t1 t2) (yx t0 i)=r at hs⊢;rcases r with _|⟨x,_|⟨y,q⟩⟩
 all_goals grind[idx]
theorem QZ{t0 t1:List Int}{t2:List Bool}(h:TreeOk t0 t1) (h2:t2.length=t0.length):∀(d:Nat) (i:Int),0<=i->i<t0.length->(t0.length:Int)-i<=d->∀n,3*d<=n->(ma n).2.2 t0 t1 t2 i=some (O t0 t1 t2 i):=by
 intro d
 induction d with
 |zero=>omega
 |succ d ih=>
  intro i h0 h1 hd n hn;obtain⟨n,rfl⟩:∃m,n=m+3:=⟨n-3,by omega⟩;show Pj (ma (n+2)).1 (ma (n+2)).2.1 (ma (n+2)).2.2 _ _ _ _=_;unfold Pj;rw[DW h λx hx m hm=>by
   have:=GC h hx
   grind]
  rw[daa,A1 h h0 h1];obtain⟨j,rfl⟩:=Fab h0;rw[Aa (by omega),qab,faa (by omega)]
  grind
theorem UD(t0 t1:List Int) (t2:List Bool):vo t0 t1 t2=some (dC t0 t1 t2):=by
 have hf:1000000<=vd:=by grind[vd]
 unfold vo dC;rw[NA t0 t1,daa];by_cases hv:eA t0 t1=0
 case neg=>simp_all
 rw[if_pos hv,daa];by_cases h2:t2.length=t0.length
 case neg=>grind
 have h:=dG hv;rw[if_neg (by simp_all),if_pos ⟨hv,h2⟩];unfold xo;obtain⟨n,hn⟩:∃n,vd=n+2:=⟨vd-2,by omega⟩;rw[hn,DW h λx hx m hm=>by
  have:=GC h hx;have:=h.le;exact QZ h h2 t0.length x (by omega) (by omega) (by omega) m (by omega)]
 rfl
section
variable {rules:List GRule} {q:GRule->Bool}
def IB(rules:List GRule) (q:GRule->Bool) (j:Nat):Int:=
 match rules[j]? with
 |none=>-1
 |some r=>if 0<=r.Parent/\r.Parent<(j:Int)then((Fc rules q j).2.2[r.Parent.toNat]?).getD 0 else -1
def nv(rules:List GRule) (q:GRule->Bool) (j:Nat):Int:=
 match rules[j]? with
 |none=>0
 |some r=>if q r=true then((Fc rules q j).1.length:Int)else IB rules q j
theorem uu{i:Nat}(hi:i<rules.length):Fc rules q (i+1)=if q rules[i]=true then((Fc rules q i).1++[(i:Int)],(Fc rules q i).2.1++[IB rules q i],((Fc rules q i).2.2.set i (IB rules q i)).set i ((Fc rules q i).1.length:Int))else((Fc rules q i).1,(Fc rules q i).2.1,(Fc rules q i).2.2.set i (IB rules q i)):=by
 grind[Fc,IB]
theorem zB:∀i,i<=rules.length->∀j,j<i->(Fc rules q i).2.2[j]?=some (nv rules q j)
 |0,_,j,h=>by omega
 |i+1,hi,j,hj=>by
  have hl:=(Il (rules:=rules) (q:=q) i).1;have ih:=zB i (by omega)
  grind[nv,uu]
theorem cX{j:Nat}(hj:j<rules.length):IB rules q j=if 0<=rules[j].Parent/\rules[j].Parent<(j:Int)then nv rules q rules[j].Parent.toNat else -1:=by
 grind[IB,zB]
theorem BL:∀i,i<=rules.length->∀j (hj:j<i) (h:j<rules.length),q rules[j]=true->(Fc rules q i).1[(Fc rules q j).1.length]?=some (j:Int)
 |0,_,j,hj,_,_=>by omega
 |i+1,hi,j,hj,h,hq=>by
  rw[uu (by omega)];rcases Nat.lt_or_ge j i with hlt|hge
  .have ih:=BL i (by omega) j hlt h hq
   grind
  grind
theorem Pz:∀i,i<=rules.length->∀x∈(Fc rules q i).1,∃(j:Nat) (h:j<rules.length),x=(j:Int)/\j<i/\q rules[j]=true
 |0,_,x,hx=>by grind[Fc]
 |i+1,hi,x,hx=>by
  rw[uu (by omega)]at hx;split at hx
  .rename_i hq;rcases tab.1 hx with h|h
   .obtain⟨j,a,b,c,d⟩:=Pz i (by omega) x h;grind
   grind
  .obtain⟨j,a,b,c,d⟩:=Pz i (by omega) x hx;grind
theorem zL:∀i,i<=rules.length->(Fc rules q i).1.Pairwise (·<·)
 |0,_=>by simp[Fc]
 |i+1,hi=>by
  have ih:=zL i (by omega);rw[uu (by omega)];split
  .rw[Dac];refine⟨ih,by simp,λa ha b hb=>?_⟩;obtain⟨j,_,rfl,c,_⟩:=Pz i (by omega) a ha
   simp_all
  omega
theorem AL:∀i,i<=rules.length->(Fc rules q i).2.1=(Fc rules q i).1.map λx=>IB rules q x.toNat
 |0,_=>by simp[Fc]
 |i+1,hi=>by
  have ih:=AL i (by omega)
  grind[uu]
end
theorem sT{l:List Int}(hl:l.length<=1048576) (x:Int):(∀k:Nat,l[k]?=some x->l.Pairwise (·<·)->Dn l x=some (k:Int))/\(x∉l->Dn l x=some (-1)):=by
 have hl1:fa (El l x) 0=some (Mb () (ff (λi=>if l[i]?=some x then some (i:Int)else none) l.length)):=
  Lb (λi=>(i:Int)) _ l.length () (λi hi _=>by
   unfold El;rw[if_pos (by omega),Aa hi,faa hi,daa,ya (by omega)]
   grind[pD]) (λ_=>by grind[El])
 unfold Dn;rw[hl1];constructor
 .intro k hk hp;have hkl:=(Haa.1 hk).1;have:ff (λi=>if l[i]?=some x then some (i:Int)else none) l.length=some (k:Int):=by
   refine Sa.2 ⟨k,hkl,by simp_all,λj hj=>?_⟩;rw[if_neg]
   grind[List.pairwise_iff_getElem]
  rw[this];rfl
 .intro hx;have:ff (λi=>if l[i]?=some x then some (i:Int)else none) l.length=none:=by
   refine Ob.2 λi hi=>?_
   grind
  rw[this];rfl
theorem OI{s:GScope}(hs:s.Rules.length<=1048576) {q:GRule->Bool}:∀(j:Nat) (hj:j<s.Rules.length),∃y,fa (bh s (Fc s.Rules q s.Rules.length).1) ((j:Int),s.Rules[j].Parent)=some y/\(match y with|.inr v=>v|.inl _=>-1)=IB s.Rules q j:=by
 intro j
 induction j using lac with
 |_ j ih=>
  intro hj;have hrl:=(Il (rules:=s.Rules) (q:=q) s.Rules.length).2.1;rw[cX hj];generalize hP:s.Rules[j].Parent=P;by_cases hc:0<=P/\P<(j:Int)
  .rw[if_pos hc];obtain⟨p,rfl⟩:=Fab hc.1;have hp:p<j:=by omega
   have hin:=sT (l:=(Fc s.Rules q s.Rules.length).1) (by omega) (p:Int);rw[qab];unfold nv;rw[faa (show p<s.Rules.length by omega)];dsimp only;by_cases hq:q (s.Rules[p]'(by omega))=true
   .rw[if_pos hq];have hpos:=BL s.Rules.length (saa _) p (by omega) (by omega) hq;have hi:=hin.1 _ hpos (zL s.Rules.length (saa _));refine⟨.inr ((Fc s.Rules q p).1.length:Int),ku ?_,rfl⟩
    simp_all[bh]
   .rw[if_neg hq];have hi:=hin.2 (λhm=>by
     obtain⟨k,hk,h1,h2,h3⟩:=Pz s.Rules.length (saa _) _ hm
     grind)
    obtain⟨y,y1,y2⟩:=ih p hp (by omega);refine⟨y,?_,y2⟩;rw[kl (s':=((p:Int),(s.Rules[p]'(by omega)).Parent))]
    .omega
    .unfold bh;dsimp only;rw[if_pos hc.1,daa,if_pos (by simp_all),hi,daa,if_neg (by omega),Aa (by omega),daa]
  .rw[if_neg hc];refine⟨.inl (),Wf ?_,rfl⟩
   grind[bh]
theorem XD{s:GScope}(hs:s.Rules.length<=1048576) {q:GRule->Bool}{j:Nat}(hj:j<s.Rules.length):Bo s (Fc s.Rules q s.Rules.length).1 (j:Int)=some (IB s.Rules q j):=by
 obtain⟨y,y1,y2⟩:=OI hs (q:=q) j hj
 grind[Bo,Aa]
def Ey(s:GScope) (x:Int):Int:=((s.Rules[x.toNat]?).map (·.Priority)).getD 0
def va(s:GScope) (d date:Int):List Int×List Int×List Int:=
 ((Fc s.Rules (Mt d date) s.Rules.length).1,(Fc s.Rules (Mt d date) s.Rules.length).2.1,(Fc s.Rules (Mt d date) s.Rules.length).1.map (Ey s))
theorem Vx{s:GScope}(hs:s.Rules.length<=1048576) (d date:Int):Uf s d date=some (va s d date):=by
 unfold Uf va;rw[No hs (q:=Mt d date) (λr=>by
  grind[Pd,Mt,Up]),daa]
 have hl:=(Il (rules:=s.Rules) (q:=Mt d date) s.Rules.length).2.1;have hm:=Jl (rules:=s.Rules) (q:=Mt d date) s.Rules.length;generalize (Fc s.Rules (Mt d date) s.Rules.length).2.1=pp;generalize (Fc s.Rules (Mt d date) s.Rules.length).1=L at hl hm;have h1:fa (xf s (L,pp)) (([]:List Int),0)=some (.inl (L.map (Ey s))):=by
  refine Xc (λi=>((L.take i).map (Ey s),(i:Int))) L.length _ (λi hi=>?_) ?_ rfl
  .have hx:=hm _ (laa hi);have h2:(L.take i).length<=L.length:=by grind
   unfold xf;dsimp only;rw[if_pos (by omega),Aa hi,daa,Ij hx.1 hx.2.1,daa,Hf (by grind),daa,ya (by omega),Raa,faa hi]
   grind[Ey]
  simp_all[xf]
 simp_all
theorem WD{s:GScope}(hs:s.Rules.length<=1048576) (d date:Int):Ao s d date=some (va s d date):=by
 unfold Ao va;rw[Fq hs,daa];have hl:=(Il (rules:=s.Rules) (q:=Mt d date) s.Rules.length).2.1;have hm:=Pz (rules:=s.Rules) (q:=Mt d date) s.Rules.length (saa _);have hp:=λ{j:Nat} (hj:j<s.Rules.length)=>XD hs (q:=Mt d date) hj;rw[AL s.Rules.length (saa _)];generalize (Fc s.Rules (Mt d date) s.Rules.length).1=L at hl hm hp;have h1:fa (Qj s L) (([]:List Int),([]:List Int),0)=some (.inl (L.map (λx=>IB s.Rules (Mt d date) x.toNat),L.map (Ey s))):=by
  refine Xc (λi=>((L.take i).map (λx=>IB s.Rules (Mt d date) x.toNat),(L.take i).map (Ey s),(i:Int))) L.length _ (λi hi=>?_) ?_ rfl
  .obtain⟨j,hj,e,-⟩:=hm _ (laa hi);have h2:(L.take i).length<=L.length:=by grind
   unfold Qj;dsimp only;rw[if_pos (by omega),Aa hi,daa,e,hp hj,daa,Hf (by grind),daa,Aa hj,daa,Hf (by grind),daa,ya (by omega),Raa,faa hi]
   simp_all[Ey]
  simp_all[Qj]
 simp_all
noncomputable def dF(l:GLaw) (gs:List (List GNode)) (f:GField) (i:Nat):List Int:=if Xu gs i=true then aH f.Type_ l.Enums (Sd (De gs i gs.length))else [0]
noncomputable def Vg(l:GLaw) (gs:List (List GNode)) (s:GScope):Nat->List (List Int)
 |0=>[]
 |k+1=>Vg l gs s k++(match s.Inputs[k]? with|some f=>[dF l gs f k]|none=>[])
noncomputable def wm(l:GLaw) (sc def_ date:Int):List (List Int)×Int:=
 if¬(Nl l).Code=0 then([],1)
 else if sc<0\/(l.Scopes.length:Int)<=sc then([],6)
 else match l.Scopes[sc.toNat]? with
  |none=>([],6)
  |some s=>
   if def_<0\/(s.Defs.length:Int)<=def_ then([],6)
   else if date<0\/109572<date then([],3)
   else if((Ko s def_ date).any λg=>!Yk g (Ds l s))=true then([],17)
   else if 4096<Mv (Vg l (Ko s def_ date) s s.Inputs.length)then([],4)
   else(Vg l (Ko s def_ date) s s.Inputs.length,0)
theorem Vn{e:List GNode}{s:GSignature}(h:Yk e s=true):Wst e:=by
 unfold Yk at h;simp only[paa,decide_eq_true_eq]at h
 grind[yE]
theorem Br{gs:List (List GNode)}(hg:gs.length<=1048576) (hw:∀g∈gs,Wst g) (i:Int):(Sd (De gs i gs.length)).length<=1099511627:=by
 grind[Wl,Tp]
theorem MQ{l:GLaw}(hm:∀x∈l.Enums,x.Members.length<=16) {gs:List (List GNode)}(hg:gs.length<=1048576) (hw:∀g∈gs,Wst g) (f:GField) (i:Nat):(dF l gs f i).length<=1099511628:=by
 unfold dF;split
 .have h1:=Br hg hw (i:Int);unfold aH;split
  .simp
  .rename_i hlt;split
   .rename_i hk;obtain⟨b1,b2,b3,b4,b5⟩:=lA (t:=f.Type_) (e:=l.Enums) λx hx=>by grind
    grind[Bu]
   grind[Wl]
 simp
theorem dn{l:GLaw}(hm:∀x∈l.Enums,x.Members.length<=16) {gs:List (List GNode)}(hg:gs.length<=1048576) (hw:∀g∈gs,Wst g) (s:GScope):∀k,(Vg l gs s k).length<=k/\∀r∈Vg l gs s k,r.length<=1099511628
 |0=>by simp[Vg]
 |k+1=>by
  obtain⟨h1,h2⟩:=dn hm hg hw s k
  grind[Vg,MQ]
theorem iW{sc:Int}{n:Nat}{d:Int}{l:GLaw}{o:Option Bool}(ho:o=(if¬sc<0 then if¬(l.Scopes.length:Int)<=sc then if¬d<0 then(idx l.Scopes sc).bind λx=>some (decide ((x.Defs.length:Int)<=d))else some true else some true else some true)) :
 o=some (if sc<0\/(l.Scopes.length:Int)<=sc then true else match l.Scopes[sc.toNat]? with|none=>true|some s=>decide (d<0\/(s.Defs.length:Int)<=d)):=by
 rw[ho];by_cases h1:sc<0
 .grind
 by_cases h2:(l.Scopes.length:Int)<=sc
 .simp_all
 rw[if_pos h1,if_pos h2,if_neg (show¬(sc<0\/(l.Scopes.length:Int)<=sc) by omega),Ij (by omega) (by omega),faa (by omega)]
 grind
theorem IH{gs:List (List GNode)}{s:GSignature}{p:List GNode->GSignature->Option Bool}(hp:∀g∈gs,p g s=some (Yk g s)) (hg:gs.length<=1048576) {step:Int->Option (Ex Int Unit (List (List Int)×Int))}
 (hstep:∀i (hi:i<gs.length),step (i:Int)=(p gs[i] s).bind λx=>if x=false then some (.ret ([],17))else some (.go (da .i64 ((i:Int)+1)))) (hend:step (gs.length:Int)=some (.brk ())) :
 fa step 0=some (if(gs.any λg=>!Yk g s)=true then .inr ([],17)else .inl ()):=by
 have h1:fa step 0=some (Mb () (ff (λi=>if(gs[i]?.any λg=>!Yk g s)=true then some (([],17):List (List Int)×Int)else none) gs.length)):=by
  refine Lb (λk=>(k:Int)) _ _ _ (λk hk _=>?_) (λ_=>hend) rfl;rw[hstep k hk,hp _ (laa hk),daa,ya (by omega),faa hk,dab];cases Yk gs[k] s<;>rfl
 rw[h1,←ym (g:=λ_=>(([],17):List (List Int)×Int))]
 cases hf:ff (λi=>if(gs[i]?.any λg=>!Yk g s)=true then some (([],17):List (List Int)×Int)else none) gs.length with
 |none=>rfl
 |some v=>
  obtain⟨j,-,j2,-⟩:=Sa.1 hf;split at j2
  .injection j2 with j2;subst j2;rfl
  simp_all
theorem vq{l:GLaw}(h:LawOk l) (sc def_ date:Int):fk l sc def_ date=some (wm l sc def_ date):=by
 unfold fk wm;rw[cw h,daa];by_cases hv:(Nl l).Code=0
 .have hV:=Cu hv;have hm:=hV.mem;have hr:=hV.rows;rw[if_neg (show¬¬(Nl l).Code=0 from λh=>h hv),if_neg (show¬¬(Nl l).Code=0 from λh=>h hv),iW (n:=0) rfl,daa];by_cases hs:sc<0\/(l.Scopes.length:Int)<=sc
  .simp_all
  rw[if_neg hs,if_neg hs];obtain⟨i,rfl⟩:∃i:Nat,sc=(i:Int):=⟨sc.toNat,by omega⟩;have hi:i<l.Scopes.length:=by omega
  rw[qab,faa hi,Aa hi];have hS:=QB h (λx hx=>by grind) (λx hx=>by grind) hi;obtain⟨g1,g2,g3,g4,g5,g6⟩:=h.s _ (laa hi);have hRu:∀r∈l.Scopes[i].Rules,RuleOk r:=λr hr=>iH h hi hr;dsimp only;generalize l.Scopes[i]=s at hS g1 g2 g3 g4 g5 g6 hRu⊢;by_cases hd:def_<0\/(s.Defs.length:Int)<=def_
  .simp_all
  rw[if_neg (show¬decide (def_<0\/(s.Defs.length:Int)<=def_)=true by simp_all),if_neg hd];have hdt:(if¬date<0 then some (decide (109572<date))else some true)=some (decide (date<0\/109572<date)):=by
   grind
  rw[hdt,daa];by_cases hdd:date<0\/109572<date
  .simp_all
  rw[if_neg (by simp_all),if_neg hdd,daa,Sw g2.rules,daa,hS,daa];have hgl:=oz s def_ date;have hgs:=λg hg=>pI (s:=s) (def_:=def_) (date:=date) (g:=g) hg;have gr:=g2.rules;generalize Ko s def_ date=gs at hgl hgs⊢;have hN:∀g∈gs,∀n∈g,wb n:=λg hg=>by
   grind
  rw[IH (p:=Ul) (λg hg=>DC (hN g hg) _) (by omega) (step:=zi gs (Ds l s)) (λk hk=>by
   unfold zi;rw[if_pos (by omega),Aa hk,daa]) (by grind[zi]),daa]
  cases hfl:gs.any λg=>!Yk g (Ds l s)
  .simp only[maa,if_false];have hw:∀g∈gs,Wst g:=λg hg=>Vn (by have:=wad.1 hfl g hg;simpa using this);have hgl2:∀g∈gs,g.length<=1048576:=λg hg=>by have:=(hw g hg).le;omega
   have hl:fa (xi l s gs) (([]:List (List Int)),0)=some (.inl (Vg l gs s s.Inputs.length)):=by
    refine Xc (λk=>(Vg l gs s k,(k:Int))) s.Inputs.length _ (λk hk=>?_) (by grind[xi]) rfl;have hlen:=(dn hm (by omega) hw s k).1;unfold xi;simp only[Vg,faa hk];rw[if_pos (by omega),Aa hk,daa,Tw (by omega) hgl2,daa,Sy (by omega) hw hN,ya (by omega)];unfold dF;cases Xu gs (k:Int)
    .simp only[maa,if_false,daa]
     grind[Hf]
    .simp only[if_true,daa]
     grind[Ut,Br,Hf]
   grind[dn,FE]
  .rfl
 simp_all
theorem Wu{l:GLaw}(h:LawOk l) (sc def_ date:Int):qp l sc def_ date=some (wm l sc def_ date):=by
 unfold qp wm;rw[PA h,daa];by_cases hv:(Nl l).Code=0
 .have hV:=Cu hv;have hm:=hV.mem;have hr:=hV.rows;rw[if_neg (show¬¬(Nl l).Code=0 from λh=>h hv),if_neg (show¬¬(Nl l).Code=0 from λh=>h hv),iW (n:=0) rfl,daa];by_cases hs:sc<0\/(l.Scopes.length:Int)<=sc
  .simp_all
  rw[if_neg hs,if_neg hs];obtain⟨i,rfl⟩:∃i:Nat,sc=(i:Int):=⟨sc.toNat,by omega⟩;have hi:i<l.Scopes.length:=by omega
  rw[qab,faa hi,Aa hi];have hS:=ot h hi;obtain⟨g1,g2,g3,g4,g5,g6⟩:=h.s _ (laa hi);have hRu:∀r∈l.Scopes[i].Rules,RuleOk r:=λr hr=>iH h hi hr;dsimp only;generalize l.Scopes[i]=s at hS g1 g2 g3 g4 g5 g6 hRu⊢;by_cases hd:def_<0\/(s.Defs.length:Int)<=def_
  .simp_all
  rw[if_neg (show¬decide (def_<0\/(s.Defs.length:Int)<=def_)=true by simp_all),if_neg hd];have hdt:(if¬date<0 then some (decide (109572<date))else some true)=some (decide (date<0\/109572<date)):=by
   grind
  rw[hdt,daa];by_cases hdd:date<0\/109572<date
  .simp_all
  rw[if_neg (by simp_all),if_neg hdd,daa,ZD g2.rules,daa,hS,daa];have hgl:=oz s def_ date;have hgs:=λg hg=>pI (s:=s) (def_:=def_) (date:=date) (g:=g) hg;have gr:=g2.rules;generalize Ko s def_ date=gs at hgl hgs⊢;have hN:∀g∈gs,∀n∈g,wb n:=λg hg=>by
   grind
  rw[IH (p:=im) (λg hg=>YD (hN g hg) _) (by omega) (step:=Km gs (Ds l s)) (λk hk=>by
   unfold Km;rw[if_pos (by omega),Aa hk,daa]) (by grind[Km]),daa]
  cases hfl:gs.any λg=>!Yk g (Ds l s)
  .simp only[maa,if_false];have hw:∀g∈gs,Wst g:=λg hg=>Vn (by have:=wad.1 hfl g hg;simpa using this);have hgl2:∀g∈gs,g.length<=1048576:=λg hg=>by have:=(hw g hg).le;omega
   have hl:fa (Jm l s gs) (([]:List (List Int)),0)=some (.inl (Vg l gs s s.Inputs.length)):=by
    refine Xc (λk=>(Vg l gs s k,(k:Int))) s.Inputs.length _ (λk hk=>?_) (by grind[Jm]) rfl;have hlen:=(dn hm (by omega) hw s k).1;unfold Jm;simp only[Vg,faa hk];rw[if_pos (by omega),aE (by omega) hgl2,daa,Aa hk,daa,Nz (by omega) hw hN,ya (by omega)];unfold dF;cases Xu gs (k:Int)
    .simp only[maa,if_false,daa]
     grind[Hf]
    .simp only[if_true,daa]
     grind[tu,Br,Hf]
   grind[dn,bF]
  .rfl
 simp_all
theorem LM{l:GLaw}(h:LawOk l) (sc def_ date:Int):(wm l sc def_ date).1.length<=1099511627776/\∀x∈(wm l sc def_ date).1,x.length<=1099511627776:=by
 unfold wm;split
 .simp
 rename_i hv;have hV:=Cu (xaa.1 hv);split
 .simp
 split
 .simp
 rename_i s hs;obtain⟨hi,hs2⟩:=Haa.1 hs;have hsm:s∈l.Scopes:=hs2▸laa hi;obtain⟨g1,g2,g3,-⟩:=h.s s hsm;have hgl:=oz s def_ date;have gr:=g2.rules;split
 .simp
 split
 .simp
 split
 .simp
 rename_i hfl;split
 .simp
 have hfl':∀g∈Ko s def_ date,Yk g (Ds l s)=true:=by simp_all
 have hw:∀g∈Ko s def_ date,Wst g:=λg hg=>Vn (hfl' g hg);obtain⟨q1,q2⟩:=dn hV.mem (by omega) hw s s.Inputs.length
 grind
theorem Y2{n:Nat}{f:Nat->Bool}{ρ:Type}{step:List Bool×Int->Option (Ex (List Bool×Int) (List Bool) ρ)}(hs:∀i,i<n->∀a:List Bool,a.length=n->step (a,(i:Int))=some (.go (a.set i (f i),((i+1:Nat):Int)))) (he:∀a,step (a,(n:Int))=some (.brk a)) :
 fa step (jaa n false,0)=some (.inl ((yaa n).map f)):=by
 refine Xc (λi=>((yaa n).map λk=>if k<i then f k else false,(i:Int))) n _ (λi hi=>?_) ?_ ?_
 .rw[hs i hi _ (by simp)];congr 3;apply Bac (by simp)
  grind
 .simp_all
 .simp;apply Bac (by simp);simp
def PB(s:GScope) (i:Int):List GNode:=((s.Rules[i.toNat]?).map (·.Guard)).getD []
noncomputable def gT(e:List GNode) (env:GEnv):Bool:=if(e.length:Int)=0 then true else((cc e env).map λp=>decide (p.2=0)&&(p.1.N==1)).getD false
noncomputable def sF(s:GScope) (rules:List Int) (env:GEnv):List Bool:=(yaa rules.length).map λk=>gT (PB s (rules.getD k 0)) env
theorem aK{s:GScope}{rules:List Int}{env:GEnv}{i:Nat}(hi:i<rules.length) (hm:∀x∈rules,0<=x/\x<(s.Rules.length:Int)) (ht:∀x∈rules,(PB s x).length≠0->BE (cc (PB s x) env)) {a:List Bool}(ha:a.length=rules.length) :
 ((
  idx rules (i:Int)).bind λx5=>(idx s.Rules x5).bind λx6=>
  if(x6.Guard.length:Int)=0 then(idx a (i:Int)).bind λx8=>(put a (i:Int) true).bind λx9=>some x9
  else(cc x6.Guard env).bind λx10=>if x10.2=0 then(idx a (i:Int)).bind λx12=>(put a (i:Int) (x10.1.N==1)).bind λx13=>some x13
   else(idx a (i:Int)).bind λx14=>(put a (i:Int) false).bind λx15=>some x15)=some (a.set i (gT (PB s (rules.getD i 0)) env)):=by
 have hx:=hm _ (laa hi);have hT:=ht _ (laa hi);rw[Aa hi,daa,Ij hx.1 hx.2,daa,Aa (by omega)];have eg:PB s rules[i]=(s.Rules[rules[i].toNat]'(by omega)).Guard:=by grind[PB]
 have er:rules.getD i 0=rules[i]:=by simp_all
 rw[er];rw[←eg];generalize PB s rules[i]=e at hT⊢;unfold gT;by_cases h0:(e.length:Int)=0
 .simp_all[ry]
 .obtain⟨p,hp,-⟩:=hT (by omega);rw[if_neg h0,if_neg h0,hp,daa];by_cases h2:p.2=0
  all_goals simp_all[ry]
def xD(fs:List GField) (g:List (List Int)) (c:List Int) (i:Nat):GValue:=⟨((fs[i]?).map (·.Type_.Kind)).getD 0,((fs[i]?).map (·.Type_.Enum)).getD 0,((g.getD i [])[(c.getD i 0).toNat]?).getD 0⟩
def fu(fs:List GField) (g:List (List Int)) (c:List Int):List GValue:=(yaa fs.length).map (xD fs g c)
theorem sb.get:∀{g:List (List Int)}{c:List Int},sb g c->∀i (h:i<g.length),∃h2:i<c.length,0<=c[i]/\c[i]<(g[i].length:Int)
 |l::g,a::r,h,0,_=>⟨by simp,h.1.1,h.1.2.1⟩
 |l::g,a::r,h,i+1,hi=>by
  obtain⟨h2,h3⟩:=sb.get h.2 i (by simpa using hi);exact⟨by simpa using h2,by simpa using h3⟩
theorem yA{fs:List GField}{g:List (List Int)}{c:List Int}(hf:fs.length<=1048576) (hg:g.length=fs.length) (hc:sb g c) {step:List GValue×Int->Option (Ex (List GValue×Int) (List GValue) Unit)}
 (hs:∀a i,step (a,i)=if i<(fs.length:Int)then(idx fs i).bind λx13=>(idx g i).bind λx14=>(idx c i).bind λx15=>(idx x14 x15).bind λx16=>(app 24 a ([(GValue.mk x13.Type_.Kind x13.Type_.Enum x16)])).bind λx17=>some (Ex.go (x17,(da .i64 (i+1))))else some (Ex.brk a)) :
 fa step (([]:List GValue),0)=some (.inl (fu fs g c)):=by
 refine Xc (λi=>((yaa i).map (xD fs g c),(i:Int))) fs.length _ (λi hi=>?_) ?_ rfl
 .obtain⟨h2,h3,h4⟩:=hc.get i (by omega);rw[hs,if_pos (by omega),Aa hi,daa,Aa (by omega),daa,Aa h2,daa,Ij h3 h4,daa,Hf (by simp;omega),daa,ya (by omega),List.range_succ,nab];congr 4;unfold xD;simp[faa hi,List.getD_eq_getElem?_getD,faa h2,faa (show i<g.length by omega),faa (show c[i].toNat<g[i].length by omega)]
 .rw[hs,if_neg (by omega)];rfl
end Go.Proofs.Dev
