/-
  The functions as plain partial functions, and plain lemmas about them: no condition.
-/
import Derived.Test.YtjiaejcpmcknnaaGreatDoorPC
import Derived.Test.YtjiaejcpmcknnaaGreatDoorPB
import Derived.KernelRfl
import Derived.Test.YtjiaejcpmcknnaaGreatDoorPA
open Bool renaming and_eq_true->Vaa,eq_false_iff->Iac,eq_iff_iff->aae,false_eq_true->Saa,not_eq_true->Yac,true_eq_false->jab
open ByteArray renaming mk->Raa
open Classical renaming not_not->cab
open Decidable renaming em->Vae
open Int renaming eq_ofNat_of_zero_le->fac,lt_or_gt_of_ne->rae,natCast_zero->Sad,not_lt->Zae,reduceBEq->Waa,reduceEq->Taa
open List renaming any_eq_true->Cad,contains_iff_mem->Cab,eq_nil_of_length_eq_zero->gab,ext_getElem->Sab,filter_append->aac,filter_congr->zae,filter_eq_nil_iff->vad,foldl_cons->mac,getElem?_append_left->Qab,getElem?_eq_getElem->Maa,getElem_mem->Qaa,getElem_of_mem->bab,length_append->uab,length_cons->sab,length_eq_zero_iff->Uac,length_nil->Xab,length_pos_of_mem->wad,length_singleton->Hab,map_append->Tab,map_congr_left->Kac,map_nil->Tac,mem_append->Jab,mem_append_left->iae,mem_cons->kac,mem_cons_self->tae,mem_filter->bac,mem_map->iac,mem_of_getElem?->qab,mem_range->Gac,mem_singleton->oac,nodup_append->Aae,not_mem_nil->Uad,pairwise_iff_getElem->zac,pairwise_lt_range->Xad,range->Zaa,range_succ->Lac,range_zero->Kae,replicate->Oaa,take_add_one->tab
open List.Pairwise renaming imp->yae
open Nat renaming le_refl->dab,sub_zero->ead,zero_le->Dab
open Option renaming bind->Laa,bind_some->Kaa,toList_some->Vab
open Option.some renaming inj->oab,injEq->wab
set_option linter.all false
set_option maxRecDepth 10000
set_option maxHeartbeats 1000000
namespace Go.Proofs.Dev
open Go Go.Tm
theorem J6{op:Int}{a b:GValue}(c:op=13\/op=14\/op=15\/op=16):Ma op a b=some (decide
 ((op=13/\b.Kind=2/\(a.Kind=2\/a.Kind=3))\/(op=14/\b.Kind=4/\(a.Kind=3\/a.Kind=4))\/(op=15/\((b.Kind=2/\(a.Kind=2\/a.Kind=3))\/(a.Kind=3/\b.Kind=3)))\/(op=16/\a.Kind=3/\b.Kind=3))):=by
 rcases c with rfl|rfl|rfl|rfl<;>simp only[Ma,Taa,if_true,if_false,Kaa,Waa,Saa,false_and,true_and,false_or,or_false]
 .grind
 .grind
 .by_cases g1:b.Kind=2
  .by_cases g2:a.Kind=2<;>by_cases g3:a.Kind=3<;>simp[g1,g2,g3]
  grind
 grind
theorem AS{x y:Int}(hx:-1000000000000000<=x/\x<=1000000000000000) (hy:-1000000000000000<=y/\y<=1000000000000000):sq x y=some (if(x*y).natAbs<=1000000000000000 then(x*y,0)else(0,3)):=by
 unfold sq;rw[lF (by omega) (by omega),lF (by omega) (by omega),xQ (by omega) (by omega),Kaa];dsimp only;have hn:x.natAbs*y.natAbs=(x*y).natAbs:=(Int.natAbs_mul x y).symm;have hb:(x*y).natAbs<=1000000000000000*1000000000000000:=by rw[←hn];exact Nat.mul_le_mul (by omega) (by omega)
 rw[hn];obtain⟨p,e⟩:∃p,(x*y).natAbs=p:=⟨_,rfl⟩;rw[e]at hb⊢;have hs:¬(x*y).natAbs=0->(¬(decide (x<0))=(decide (y<0))↔x*y<0):=by
  intro h0;have c:x≠0:=by grind
  have h2:y≠0:=by grind
  rcases rae c with a|a<;>rcases rae h2 with b|b
  .grind
  .have:=Int.mul_neg_of_neg_of_pos a b
   grind
  .have:=Int.mul_neg_of_pos_of_neg a b
   grind
  grind
 by_cases d:p<=1000000000000000
 .rw[if_pos d];have c:p / 18446744073709551616=0:=by omega
  have h2:p % 18446744073709551616=p:=by omega
  rw[c,h2,if_pos (by rfl),Kaa,if_neg (by grind),wid (n:=(p:Int)) (by omega) (by omega),wid (by omega) (by omega)]
  grind
 grind
theorem iC{op N:Int}{a b:GValue}{env:GEnv}(f:op=13\/op=14\/op=15\/op=16) (ha:ic a) (hb:ic b):Ns (Pc ⟨op,N⟩ [a,b] env):=by
 have h1:=ha.range;have h2:=hb.range;have c:qa ⟨op,N⟩ [a,b] env=_:=(mI (by omega)).trans (J6 f);have d:za ⟨op,N⟩ [a,b] env=Vf ⟨op,N⟩ a b:=by
  rw[MA (by omega)];rcases f with rfl|rfl|rfl|rfl<;>simp only[Mb,Taa,Waa,if_true,if_false,Saa,Kaa,gJ]
 rcases f with rfl|rfl|rfl|rfl
 .simp only[Taa,true_and,false_and,or_false]at c;have hq:Vf ⟨13,N⟩ a b=some (⟨a.Kind,0,(if(a.N*b.N).natAbs<=1000000000000000 then(a.N*b.N,(0:Int))else(0,3)).1⟩,(if(a.N*b.N).natAbs<=1000000000000000 then(a.N*b.N,(0:Int))else(0,3)).2):=by
   simp_all[Vf,AS]
  grind[Ns.ite]
 .simp only[Taa,true_and,false_and,or_false,false_or]at c;by_cases hc:b.Kind=4/\(a.Kind=3\/a.Kind=4)
  .rw[decide_eq_true hc]at c;rcases hc with⟨h,g|g⟩
   .refine Tj (v:=⟨a.Kind,0,(mdS a.N b.N 1000000 N).1⟩) (e:=(mdS a.N b.N 1000000 N).2) c (d.trans ?_)
    simp_all[Vf,PK]
   .refine Tj (v:=⟨a.Kind,0,(PZ a.N b.N N).1⟩) (e:=(PZ a.N b.N N).2) c (d.trans ?_)
    simp_all[Vf,cP]
  grind[ft]
 .simp only[Taa,true_and,false_and,or_false,false_or]at c;by_cases hc:(b.Kind=2/\(a.Kind=2\/a.Kind=3))\/(a.Kind=3/\b.Kind=3)
  .rw[decide_eq_true hc]at c;rcases hc with⟨h,g⟩|⟨h,g⟩
   .refine Tj (v:=⟨a.Kind,0,(I7 a.N b.N N).1⟩) (e:=(I7 a.N b.N N).2) c (d.trans ?_)
    simp_all[Vf,fo]
   .refine Tj (v:=⟨4,0,(frS a.N b.N N).1⟩) (e:=(frS a.N b.N N).2) c (d.trans ?_)
    simp_all[Vf,UC]
  grind[ft]
 .simp only[Taa,true_and,false_and,or_false,false_or]at c;refine Ns.ite (v:=⟨a.Kind,0,(rtS a.N b.N N).1⟩) (e:=(rtS a.N b.N N).2) c λhc=>d.trans ?_
  simp_all[Vf,DE]
theorem oS{op:Int}(hop:36<=op/\op<=39) (t:GType):Cf op t=some (decide (t.Enum=0/\((op=36/\(t.Kind=2\/t.Kind=3))\/(op=39/\2<=t.Kind/\t.Kind<=5)\/(op≠36/\op≠39/\t.Kind=1)))):=by
 unfold Cf;simp only[nQ,Gg];by_cases hE:t.Enum=0
 case neg=>grind
 have hk:(2<=t.Kind/\t.Kind<=5)↔((2<=t.Kind/\t.Kind<=4)\/t.Kind=5):=by omega
 have:op=36\/op=37\/op=38\/op=39:=by omega
 rcases this with rfl|rfl|rfl|rfl
 all_goals grind
theorem tQ{σ β ρ:Type}{s:σ->Option (Ex σ β ρ)}(I:σ->Prop) (a:σ->Nat) (QB:β->Prop) (QR:ρ->Prop)
 (h:∀x,I x->(∃d,s x=some (.go d)/\I d/\a d<a x)\/(∃b,s x=some (.brk b)/\QB b)\/∃b,s x=some (.ret b)/\QR b)
 {x:σ} (hi:I x):(∃b,da s x=some (.inl b)/\QB b)\/∃b,da s x=some (.inr b)/\QR b:=by
 have:=E5 (s1:=s) (s2:=s) (λx y=>x=y/\I x) a (λb c=>b=c/\QB b) (λb c=>b=c/\QR b) (by
  grind) (a x) x x (dab _) ⟨rfl,hi⟩
 grind
theorem bT{op N:Int}{env:GEnv}(he:EnvOk env) (g:36<=op/\op<=39) (hf:Vp ⟨op,N⟩ env=true):Ns (Pc ⟨op,N⟩ [] env):=by
 have a:0<=N/\N<(env.MemberTypes.length:Int):=by
  grind[Vp]
 have hi:idx env.MemberTypes N=some (env.MemberTypes[N.toNat]'(by omega)):=Ng a.1 a.2;generalize env.MemberTypes[N.toNat]'(by omega)=t at hi;have hal:qa ⟨op,N⟩ [] env=Cf op t:=by
  unfold qa
  grind
 have hcm:za ⟨op,N⟩ [] env=oh ⟨op,N⟩ env:=by
  unfold za;dsimp only;have w:(op==5)=false:=by grind
  rw[if_neg (by omega),if_neg (by omega),if_neg (by omega),if_neg (by omega),w,Kaa,if_neg (by simp),if_neg (by omega),if_neg (by omega),if_neg (by omega),if_neg (by omega),if_neg (by omega),JZ,decide_eq_true g,if_pos rfl,gJ]
 have hov:∃p,oh ⟨op,N⟩ env=some p:=by
  unfold oh;dsimp only;rw[hi,Kaa];obtain⟨j,z⟩:∃j,(if op=37 then some (1:Int)else some 0)=some j:=by split<;>exact⟨_,rfl⟩
  obtain⟨b,hb⟩:∃b,(if op=39 then some ((env.Members.length:Int)==0)else some false)=some b:=by split<;>exact⟨_,rfl⟩
  rw[z,Kaa,hb,Kaa]
  cases b with
  |true=>simp
  |false=>
   rw[if_neg (by simp)];have f:=tQ (s:=ck ⟨op,N⟩ env t) (λx=>0<=x.2.2.2/\x.2.2.2<=(env.Members.length:Int)) (λx=>(env.Members.length-x.2.2.2).toNat) (λ_=>True) (λ_=>True) (by
    rintro⟨D,E,k,d⟩ ⟨g1,g2⟩;dsimp only at g1 g2;unfold ck;dsimp only;by_cases c:d<(env.Members.length:Int)
    case neg=>rw[if_neg c];simp
    rw[if_pos c,Ng g1 c];simp only[Kaa];generalize env.Members[d.toNat]'(by omega)=l;by_cases hN:(l.length:Int)<=N
    .rw[if_neg (by omega)];simp
    rw[if_pos hN,Ng a.1 (by omega)];simp only[Kaa,Ux,Yb];generalize l[N.toNat]'(by omega)=v;have hgo:∀m n o:Int,∃e,(some (Ex.go (m,n,o,ca .i64 (d+1))):Option (Ex (Int×Int×Int×Int) (Int×Int×Int) (GValue×Int)))=some (.go e)/\(0<=e.2.2.2/\e.2.2.2<=(env.Members.length:Int))/\(env.Members.length-e.2.2.2).toNat<(env.Members.length-d).toNat:=by
     intro m n o;have:=he.mem;rw[wid (by omega) (by omega)]
     grind
    by_cases hv0:v.Kind=0
    .simp_all
    have h:(v.Kind==0)=false:=by simp[hv0]
    simp only[h,Saa,if_false];by_cases y:(Ds v&&(decide (v.Kind=t.Kind)&&decide (v.Enum=t.Enum)))=true
    case neg=>
     simp_all
    rw[y];simp only[jab,if_false];by_cases i:op=36
    .simp only[i,if_true];cases Ds ⟨D,E,ca .i64 (k+v.N)⟩
     all_goals simp_all
    simp only[i,if_false];by_cases A:op=37
    .simp_all
    simp only[A,if_false];by_cases B:op=38
    .simp_all
    have C:op=39:=by omega
    simp only[B,C,if_false,if_true];obtain⟨b,hb⟩:∃b,(if¬d=0 then some (decide (k<v.N))else some true)=some b:=by grind
    rw[hb,Kaa];cases b
    all_goals simp_all) (x:=(t.Kind,t.Enum,j,0)) ⟨by simp,by simp⟩
   rcases f with⟨⟨q,r,b3⟩,u,-⟩|⟨⟨q,r⟩,u,-⟩
   all_goals simp_all
 grind[oS,Ns.ite]
theorem cY{n:GNode}{args:List GValue}{env:GEnv}(he:EnvOk env) (hN:Xa n) (hl:args.length<=3):Ns (ub n args env):=by
 refine AD hl λd h2 h3 h4 h5=>?_;obtain⟨op,N⟩:=n;dsimp only at d h2;have two:(11<=op/\op<=24)\/(27<=op/\op<=30)->∃a b,args=[a,b]:=by
  intro h;have:args.length=2:=by grind[Ab]
  match args,this with
  |[a,b],_=>simp
 have one:op=10\/op=25\/(31<=op/\op<=34)->∃a,args=[a]:=by
  intro h;have:args.length=1:=by grind[Ab]
  match args,this with
  |[a],_=>simp
 have zero:op<=9\/35<=op->args=[]:=by
  grind[Ab,Uac]
 rcases xB d with h|h|h|h|h|h|h|h|h|h|h|h|h|h|h|h|h|h|h|h|h|h|h|h|h|h|h|h|h|h|h|h|h|h|h|h|h|h|h<;>subst h
 .grind[Ot]
 .grind[Ot]
 .grind[Ot]
 .grind[Ot]
 .grind[Ot]
 .grind[OQ]
 .grind[PQ]
 .grind[P3]
 .grind[Q3]
 .obtain⟨a,rfl⟩:=one (by omega);grind[vX]
 .obtain⟨a,b,rfl⟩:=two (by omega);grind[HN]
 .obtain⟨a,b,rfl⟩:=two (by omega);grind[HN]
 .obtain⟨a,b,rfl⟩:=two (by omega);grind[iC]
 .obtain⟨a,b,rfl⟩:=two (by omega);grind[iC]
 .obtain⟨a,b,rfl⟩:=two (by omega);grind[iC]
 .obtain⟨a,b,rfl⟩:=two (by omega);grind[iC]
 .obtain⟨a,b,rfl⟩:=two (by omega);grind[IN]
 .obtain⟨a,b,rfl⟩:=two (by omega);grind[IN]
 .obtain⟨a,b,rfl⟩:=two (by omega);grind[TH]
 .obtain⟨a,b,rfl⟩:=two (by omega);grind[TH]
 .obtain⟨a,b,rfl⟩:=two (by omega);grind[UH]
 .obtain⟨a,b,rfl⟩:=two (by omega);grind[UH]
 .obtain⟨a,b,rfl⟩:=two (by omega);grind[JN]
 .obtain⟨a,b,rfl⟩:=two (by omega);grind[JN]
 .obtain⟨a,rfl⟩:=one (by omega);grind[KN]
 .have:args.length=3:=by grind[Ab]
  match args,this with
  |[a,b,c],_=>grind[wX]
 .obtain⟨a,b,rfl⟩:=two (by omega);grind[xX]
 .obtain⟨a,b,rfl⟩:=two (by omega);grind[yX]
 .obtain⟨a,b,rfl⟩:=two (by omega);grind[LN]
 .obtain⟨a,b,rfl⟩:=two (by omega);grind[LN]
 .obtain⟨a,rfl⟩:=one (by omega);grind[VH]
 .obtain⟨a,rfl⟩:=one (by omega);grind[VH]
 .obtain⟨a,rfl⟩:=one (by omega);grind[zX]
 .obtain⟨a,rfl⟩:=one (by omega);grind[AX]
 all_goals grind[BX,bT]
theorem jaa{e:List GNode}(h:Wst e) (hN:∀n∈e,Xa n) {env:GEnv}(he:EnvOk env):∀i,i<e.length->NodeP e env i:=
 MK h λi hi _=>cY he (KV hN hi) (by grind[Up,aA])
theorem gY{e:List GNode}(hN:∀n∈e,Xa n) {env:GEnv}(he:EnvOk env) (h:Wst e):ib e env=some (No e env (e.length-1))/\((No e env (e.length-1)).2=0->ic (No e env (e.length-1)).1):=
 XN h (jaa h hN he _ (by have:=h.pos;omega))
theorem tT{e:List GNode}(hN:∀n∈e,Xa n) {env:GEnv}(he:EnvOk env):Ns (ib e env):=by
 by_cases a:(Jm e).2.2=0
 .obtain⟨b,h2⟩:=gY hN he (DA a);exact⟨_,b,h2⟩
 .unfold ib aj;rw[uk];simp only[Kaa];rw[if_pos a];exact⟨_,rfl,λh=>absurd h a⟩
theorem jq{s:GScope}(hs:ScOk s):pe s=some (xv (Tp s)):=by
 grind[pe,Xn]
theorem aE{g:List (List Int)}:∀(k:Nat) (out:List Int),(∀x∈out,0<=x/\x<(g.length:Int))->(out.length+k<=g.length)->(∀x∈(Xu g k out).1,0<=x/\x<(g.length:Int))/\(Xu g k out).1.length<=g.length
 |0,out,h,hl=>⟨h,hl⟩
 |k+1,out,h,hl=>by
  unfold Xu;split
  .rename_i d hf;have h2:=List.mem_of_find?_eq_some hf;rw[Gac]at h2;refine aE k _ (λx hx=>?_) (by grind)
   grind
  simp
theorem SG(g:List (List Int)):(∀x∈(xv g).1,0<=x/\x<(g.length:Int))/\(xv g).1.length<=g.length:=aE g.length [] (λx hx=>by simp at hx) (by simp)
def zG(n:Nat) (x:Int):Prop:=x = -1\/x = -2\/(0<=x/\x<(n:Int))
theorem XV{t1:List Int}{out:Int->Int}{l:List Int}{n:Nat}(h:∀x∈l,zG n (out x)):zG n (UN t1 out l):=by
 unfold UN;have hs:=Qy (t1:=t1) (out:=out) (l:=l);split
 .exact .inl rfl
 .simp_all
 .exact .inr (.inl rfl)
theorem J5{t0 t1:List Int}{t2:List Bool}:∀(k:Nat) (i:Int),0<=i->i<(t0.length:Int)->zG t0.length (oc t0 t1 t2 k i)
 |0,i,_,_=>.inl rfl
 |k+1,i,a,b=>by
  unfold oc;split
  .exact .inr (.inr ⟨a,b⟩)
  .exact XV λx hx=>by
    obtain⟨j,rfl,hj,-⟩:=LA hx;exact J5 k _ (by omega) (by omega)
theorem vL(t0 t1:List Int) (t2:List Bool):zG t0.length (RE t0 t1 t2):=by
 unfold RE;split
 .exact XV λx hx=>by
   obtain⟨j,rfl,hj,-⟩:=LA hx;exact J5 t0.length _ (by omega) (by omega)
 .exact .inl rfl
structure ScE (s:GScope):Prop where
 ok:ScOk s
 n:∀r∈s.Rules,(∀n∈r.Guard,Xa n)/\(∀n∈r.Value,Xa n)
def C0:GEvalError:=⟨0,0,0,0⟩
def Val0(v:GValue):Prop:=v=⟨0,0,0⟩\/ic v
structure ScopeR (n:Nat) (v:List GValue) (r:List Int):Prop where
 vl:v.length=n
 rl:r.length=n
 vp:∀x∈v,Val0 x
theorem mem_set{α:Type}{l:List α}{i:Nat}{x y:α}(h:y∈l.set i x):y=x\/y∈l:=by
 grind
theorem jM{s:GScope}(t:ScE s) {env:GEnv}(he:EnvOk env) (m d:Int):∃p,Xe s env m d=some p/\(p.2.Code=0->zG s.Rules.length p.1):=by
 have hr:=t.ok.rules;unfold Xe;rw[Ap hr,Kaa];obtain⟨hl1,f,e⟩:=Jn (rules:=s.Rules) (q:=Cu d env.Date) s.Rules.length;have hm:=Bj (rules:=s.Rules) (q:=Cu d env.Date) s.Rules.length;unfold xa;generalize (zi s.Rules (Cu d env.Date) s.Rules.length).2.1=par at e⊢;generalize (zi s.Rules (Cu d env.Date) s.Rules.length).1=L at f e hm⊢;generalize L.map (DH s)=pr;dsimp only;rw[dw (by omega) (by omega),Kaa];have g:=tQ (s:=ie s env m d (L,par,pr))
  (λx=>∃i:Nat,i<=L.length/\x.2=(i:Int)/\x.1.length=L.length) (λx=>(L.length-x.2).toNat)
  (λx=>x.length=L.length) (λx=>x.2.Code≠0) (by
   rintro⟨a,a2⟩ ⟨i,i1,u,w⟩;dsimp only at u w;subst u;unfold ie;dsimp only;by_cases hi:i<L.length
   case neg=>
    grind
   have hx:=hm _ (Qaa hi);rw[if_pos (by omega),Ca hi];simp only[Kaa];generalize L[i]=x at hx⊢;rw[Ng hx.1 hx.2.1];simp only[Kaa];have c:s.Rules[x.toNat]'(by omega)∈s.Rules:=Qaa _;generalize s.Rules[x.toNat]'(by omega)=r at c;have hN:=(t.n r c).1;have step:∀v:Bool,(Laa (α:=((List Bool)⊕(Ex ((List Bool)×Int) (List Bool) (Int×GEvalError)))) ((idx a (i:Int)).bind λx13=>(put a (i:Int) v).bind λk=>some (Sum.inl k)) λz=>match z with|.inr v=>some v|.inl j=>some (Ex.go (j,(ca .i64 ((i:Int)+1)))))=some (.go (a.set i v,((i+1:Nat):Int))):=by
    intro v;rw[Ca (by omega),Kaa,yv (by omega),Kaa,Kaa]
    grind[ya]
   by_cases o:(r.Guard.length:Int)=0
   .rw[if_pos o];exact .inl ⟨_,step true,⟨i+1,by omega,rfl,by simp_all⟩,by omega⟩
   .rw[if_neg o];obtain⟨p,y,p3⟩:=tT hN he;rw[y,Kaa];by_cases hc:p.2=0
    .rw[if_neg (cab.2 hc)];exact .inl ⟨_,step _,⟨i+1,by omega,rfl,by simp_all⟩,by omega⟩
    simp_all) (x:=(Oaa L.length false,0)) ⟨0,Dab _,rfl,by simp⟩
 rcases g with⟨x,g1,g2⟩|⟨x,g1,g3⟩
 .rw[g1,Kaa];dsimp only;rw[Mq];simp only[Kaa];have b:=vL par pr x;generalize RE par pr x=v at b;by_cases hv:v<0
  .rw[if_pos hv];refine⟨_,rfl,λ_=>?_⟩;rcases b with h|h|h
   .exact .inl h
   .exact .inr (.inl h)
   omega
  .rw[if_neg hv,Ng (by omega) (by rcases b with h|h|h<;>omega),Kaa];have:=hm _ (Qaa (l:=L) (n:=v.toNat) (by rcases b with h|h|h<;>omega));exact⟨_,rfl,λ_=>.inr (.inr ⟨this.1,this.2.1⟩)⟩
 simp_all
theorem LQ{s:GScope}(u:ScE s) {env:GEnv}(he:EnvOk env) {w:List Bool}(hw:w.length=s.Defs.length) (m:Int) :
 (∃v r,Ya s env m w=some ((r,C0),{ env with Defs:=v })/\ScopeR s.Defs.length v r)\/
 ∃e d,e.Code≠0/\Ya s env m w=some (([],e),d):=by
 have hd:=u.ok.defs;unfold Ya;rw[dw (by omega) (by omega),dw (by omega) (by omega),Kaa,Kaa,jq u.ok,Kaa];obtain⟨g,o⟩:=SG (Tp s);rw[Xp]at g o;generalize xv (Tp s)=ord at g o⊢;have z:=tQ (s:=Zb s env m w ord)
  (λx=>∃i:Nat,i<=ord.1.length/\x.2.2=(i:Int)/\ScopeR s.Defs.length x.1 x.2.1) (λx=>(ord.1.length-x.2.2).toNat)
  (λx=>ScopeR s.Defs.length x.1 x.2) (λx=>∃e d,x=(([],e),d)/\e.Code≠0) (by
   rintro⟨a,b,c⟩ ⟨i,i1,F,A,B,C⟩;dsimp only at F A B C;subst F;unfold Zb;dsimp only;by_cases hi:i<ord.1.length
   case neg=>
    rw[if_neg (by omega)];exact .inr (.inl ⟨_,rfl,A,B,C⟩)
   have hx:=g _ (Qaa hi);rw[if_pos (by omega),Ca hi];simp only[Kaa];generalize ord.1[i]=x at hx⊢;rw[Ng (l:=w) hx.1 (by omega)];simp only[Kaa];by_cases t:w[x.toNat]'(by omega)=false
   .rw[if_pos t];simp only[Kaa];rw[ya (by omega)];exact .inl ⟨_,rfl,⟨i+1,by omega,rfl,A,B,C⟩,by grind⟩
   rw[if_neg t];have j:EnvOk (GEnv.mk env.Date env.Inputs a env.Members env.MemberTypes env.Tables):=⟨he.tabs,he.mem⟩;obtain⟨p,H,I⟩:=jM u j m x;rw[H];simp only[Kaa];by_cases hc:p.2.Code=0
   case neg=>
    simp_all
   rw[if_neg (cab.2 hc)];by_cases G:p.1 = -1
   .simp_all
   rw[if_neg G];by_cases h2:p.1 = -2
   .simp_all
   rw[if_neg h2];have D:0<=p.1/\p.1<(s.Rules.length:Int):=by
    rcases I hc with h|h|h
    all_goals omega
   rw[Ng D.1 D.2];simp only[Kaa];have f:s.Rules[p.1.toNat]'(by omega)∈s.Rules:=Qaa _;generalize s.Rules[p.1.toNat]'(by omega)=r at f;obtain⟨q,q1,J⟩:=tT (u.n r f).2 j;rw[q1];simp only[Kaa];by_cases hq:q.2=0
   case neg=>
    simp_all
   rw[if_neg (cab.2 hq)];obtain⟨k,rfl⟩:=fac hx.1;rw[Ca (by omega),Kaa,yv (by omega),Kaa,Ca (by omega),Kaa,yv (by omega)];simp only[Kaa];rw[ya (by omega)];refine .inl ⟨_,rfl,⟨i+1,by omega,rfl,?_,?_,?_⟩,by grind⟩
   .grind
   .grind
   .intro y E;rcases mem_set E with rfl|E
    .exact .inr (J hq)
    simp_all) (x:=(Oaa s.Defs.length ⟨0,0,0⟩,Oaa s.Defs.length 0,0)) ⟨0,Dab _,rfl,by simp,by simp,λx hx=>.inl (List.eq_of_mem_replicate hx)⟩
 rcases z with⟨x,g1,g3⟩|⟨x,g1,e,d,rfl,g3⟩
 .rw[g1];exact .inl ⟨x.1,x.2,rfl,g3⟩
 simp_all
theorem Vz{n:Nat}{f:Nat->Bool}{x:Int}(a:0<=x) (h1:x<(n:Int)):put ((Zaa n).map f) x true=some ((Zaa n).map λk=>f k || decide (x=(k:Int))):=by
 obtain⟨j,rfl⟩:=fac a;rw[yv (by simp_all)];congr 1;apply Sab
 all_goals grind
theorem zv{α:Type}{n:Nat}{f:Nat->α}{x:Int}(h0:0<=x) (h1:x<(n:Int)):idx ((Zaa n).map f) x=some (f x.toNat):=by
 grind[Ng]
theorem nS{n:Nat}{l:List Int}(hl:l.length<=1048576) (hm:∀x∈l,0<=x/\x<(n:Int)) (f:Nat->Bool) {step:List Bool×Int->Option (Ex (List Bool×Int) (List Bool) Unit)}
 (c:∀a b,step (a,b)=if b<(l.length:Int)then(idx l b).bind λx=>(idx a x).bind λ_=>(put a x true).bind λq=>some (.go (q,ca .i64 (b+1)))else some (.brk a)) :
 da step ((Zaa n).map f,0)=some (.inl ((Zaa n).map λk=>f k || l.contains (k:Int))):=by
 refine Rc (λi=>((Zaa n).map (λk=>f k || (l.take i).contains (k:Int)),(i:Int))) l.length _ (λi hi=>?_) ?_ (by simp)
 .have hx:=hm _ (Qaa hi);rw[c,if_pos (by omega),Ca hi,Kaa,zv hx.1 hx.2,Kaa,Vz hx.1 hx.2,Kaa,ya (by omega),tab,Maa hi]
  grind
 simp_all
theorem TS(n:Nat):Oaa n false=(Zaa n).map λ_=>false:=by
 apply Sab<;>simp
def wB(s:GScope) (d x:Int):Bool:=decide (d=x) || (jC s d s.Defs.length).contains x
theorem SX{s:GScope}{d x:Int}:wB s d x=true↔d=x\/Way s d x:=by
 simp_all[wB,oF]
theorem kz{s:GScope}{d x:Int}(h:Way s d x):0<=x/\x<(s.Defs.length:Int):=by
 cases h with
 |one h=>exact h.2.1
 |step _ h=>exact h.2.1
def YD(r:GRule):List Int:=Eu js r.Guard++Eu js r.Value
def JK(s:GScope) (d:Int):List Int:=Wc ((s.Rules.filter λ(r:GRule)=>wB s d r.Def).flatMap YD)
theorem MM{l:List GRule}(a:∀r∈l,r.Guard.length<=1048576/\r.Value.length<=1048576) {p:GRule->Bool}:((l.filter p).flatMap YD).length<=2097152*l.length:=by
 induction l with
 |nil=>simp
 |cons r l b=>
  have:=b λx hx=>a x (by grind)
  grind[YD,Em]
theorem PA{s:GScope}(c:ScOk s) {d:Int}(hd:0<=d/\d<(s.Defs.length:Int)):Ei s d=some (JK s d):=by
 have h1:=c.defs;have h2:=c.rules;obtain⟨l,hl,j,f⟩:=kq c d;unfold vc at hl;rw[if_pos (by omega),Kaa,if_neg (by simp_all)]at hl;unfold Ei;rw[if_pos (by omega),Kaa,if_neg (by simp_all),dw (by omega) (by omega),Kaa,TS,zv hd.1 hd.2,Kaa,Vz hd.1 hd.2,Kaa]
 cases ha:wc s with
 |none=>simp_all
 |some g=>
  rw[ha,Kaa]at hl;rw[Kaa]
  cases hr:Ui g d with
  |none=>simp_all
  |some l'=>
   rw[hr,Kaa]at hl;obtain rfl:=oab hl;rw[Kaa,nS j (λx hx=>kz ((f x).1 hx)) _ (λa b=>by grind[yp]),Kaa];dsimp only;have hw:((Zaa s.Defs.length).map λ(k:Nat)=>(false || decide (d=(k:Int))) || l'.contains (k:Int))=(Zaa s.Defs.length).map λ(k:Nat)=>wB s d (k:Int):=by
    apply Kac;intro k _;unfold wB;rw[Bool.false_or];congr 1;rw[aae,Cab,Cab,f,oF]
   rw[hw];have m:da (Bh s ((Zaa s.Defs.length).map λ(k:Nat)=>wB s d (k:Int))) (([]:List Int),0)=some (.inl ((s.Rules.filter λ(r:GRule)=>wB s d r.Def).flatMap YD)):=by
    refine Rc (λi=>(((s.Rules.take i).filter λ(r:GRule)=>wB s d r.Def).flatMap YD,(i:Int))) s.Rules.length _ (λi hi=>?_) ?_ rfl
    .have hr:=c.g _ (Qaa hi);have hb:=MM (l:=s.Rules.take i) (λr hr=>c.g r (List.mem_of_mem_take hr)) (p:=λ(r:GRule)=>wB s d r.Def);have h5:(s.Rules.take i).length<=1048576:=by grind
     have q:=Em (p:=js) (e:=s.Rules[i].Guard);have t:=Em (p:=js) (e:=s.Rules[i].Value);unfold Bh;dsimp only;rw[if_pos (by omega),Ca hi,Kaa,ya (by omega),tab,Maa hi];simp only[Vab,aac,List.flatMap_append];generalize s.Rules[i]=r at hr q t⊢;generalize ((s.Rules.take i).filter λ(r:GRule)=>wB s d r.Def).flatMap YD=acc at hb⊢;have hc:(if¬r.Def<0 then if¬(s.Defs.length:Int)<=r.Def then(idx ((Zaa s.Defs.length).map λ(k:Nat)=>wB s d (k:Int)) r.Def).bind λo=>some (!o)else some true else some true)=some (!wB s d r.Def):=by
      by_cases g1:0<=r.Def
      .by_cases g2:r.Def<(s.Defs.length:Int)
       .rw[if_pos (by omega),if_pos (by omega),zv g1 g2,Kaa]
        grind
       .rw[if_pos (by omega),if_neg (by omega)];have:wB s d r.Def=false:=by
         rw[←Yac,SX];rintro(h|h)
         .omega
         .have:=kz h;omega
        simp_all
      .rw[if_neg (by omega)];have:wB s d r.Def=false:=by
        rw[←Yac,SX];rintro(h|h)
        .omega
        .have:=kz h;omega
       simp_all
     rw[hc,Kaa];cases n:wB s d r.Def
     .simp[n]
     .rw[if_neg (by simp),wg (by omega),Kaa,wg (by omega),Kaa]
      grind[Bi,YD,wi]
    simp_all[Bh]
   rw[m,Kaa];dsimp only;have hb:=MM (l:=s.Rules) c.g (p:=λ(r:GRule)=>wB s d r.Def);rw[Qv (by omega)];rfl
theorem Valid.rule{l:GLaw}(a:Valid l) {i k:Nat}(hi:i<l.Scopes.length) (hk:k<l.Scopes[i].Rules.length):Dy l.Scopes[i] (Jo l l.Scopes[i]) k l.Scopes[i].Rules[k]=0:=by
 have h:=a.s i hi;generalize l.Scopes[i]=x at h hk⊢;unfold dh at h
 repeat' split at h
 all_goals first|(simp at h;done)|skip
 .rename_i v hv;exact(Qz UO hv h).elim
 .rename_i v hv;exact(Qz lK hv h).elim
 .rename_i v hv;exact(Qz oL hv h).elim
 simp_all[CH,Hb]
theorem Valid.few{l:GLaw}(a:Valid l) {i:Nat}(hi:i<l.Scopes.length):Mw l i l.Scopes[i]=false/\l.Scopes[i].Inputs.length<=12/\l.Scopes[i].Defs.length<=12:=by
 have h:=a.s i hi
 grind[dh]
theorem aI{e:List GNode}{s:GSignature}{t:GType}(h:lC e s t=0):(Uj e s).2.2=0:=by
 grind[lC]
theorem iE{x:GScope}{s:GSignature}{k:Nat}{r:GRule}(h:Dy x s k r=0):(0<r.Guard.length->(Uj r.Guard s).2.2=0)/\(Uj r.Value s).2.2=0:=by
 unfold Dy at h;split at h
 .omega
 split at h
 .omega
 split at h
 .omega
 split at h
 .omega
 split at h
 .omega
 split at h
 .omega
 split at h
 .omega
 split at h
 .omega
 .rename_i h2;refine⟨λhl=>?_,aI h⟩;exact aI (t:=⟨1,0⟩) (Decidable.byContradiction λa=>h2 ⟨hl,a⟩)
theorem B2{op N:Int}{ops:List GType}{s:GSignature}(h:36<=op/\op<=39) {p:GType×Int}(hr:Ja ⟨op,N⟩ ops s=some p) (a:p.2=0):0<=N/\N<(s.MemberDefs.length:Int):=by
 rcases Vae (0<=N/\N<(s.MemberDefs.length:Int))with hc|hc
 .omega
 exfalso;have hu:=Fa (op:=op) (by omega);have c:tc op=true:=by grind[tc]
 unfold Ja sa Ve sb at hr;simp only[hu,c,Ha,Ig,Uu]at hr;by_cases d:N<0
 .rcases(by omega:op=36\/op=37\/op=38\/op=39)with h|h|h|h<;>subst h<;>cases b:s.HasMembers<;>simp[b,d]at hr<;>(rw[←hr]at a;simp at a)
 .have e:(s.MemberDefs.length:Int)<=N:=by omega
  rcases(by omega:op=36\/op=37\/op=38\/op=39)with h|h|h|h<;>subst h<;>cases b:s.HasMembers<;>simp[b,d,e]at hr<;>(rw[←hr]at a;simp at a)
theorem PJ{e:List GNode}{s:GSignature}(hN:∀n∈e,Xa n) (h:(Uj e s).2.2=0):∀n∈e,js n=true->0<=n.N/\n.N<(s.MemberDefs.length:Int):=by
 unfold Uj at h;split at h
 case isFalse h2=>simp_all
 rename_i d;have hw:=DA d;have hn:ff (Iu e s) e.length=none:=by
  grind[Iu,Oa]
 intro n b hm;obtain⟨j,a,rfl⟩:=bab b;have ht:=Hb.1 hn j a;obtain⟨-,-,h39⟩:=hw.ar a;unfold Iu at ht;split at ht
 case isFalse=>grind
 rename_i f;have hr:=qy hw hN a (λi hi=>Hb.1 hn i (by omega));rw[Qe a];rw[Qe a]at hm;have c:36<=(Aa e j).Op/\(Aa e j).Op<=39:=by
  grind[js]
 have hres:=B2 (op:=(Aa e j).Op) (N:=(Aa e j).N) c hr f;omega
theorem uL{l:GLaw}(h:LawOk l) {x:GScope}(hx:x∈l.Scopes):ScE x:=by
 obtain⟨-,g2,-,-,-,a⟩:=h.s x hx;exact⟨g2,λr hr=>(a r hr).2.2⟩
theorem bnd4{t:GType}{e:List GEnum}(hk:t.Kind=4):-1000000000<=(og t e).1/\(og t e).2<=1000000000:=by
 have hb:=oi t e;unfold Kc at hb;rw[Ha,Kaa]at hb
 grind
theorem Valid.rowsN{l:GLaw}(h:Valid l):∀t∈l.Tables,t.Rows.length<=150/\(t.Value.Kind=4->RowsN t):=by
 intro t ht;have h64:=h.rows t ht;refine⟨by omega,λhk=>⟨by omega,λr hr=>?_⟩⟩;obtain⟨i,hi,rfl⟩:=bab ht;have:=h.t i hi;generalize l.Tables[i]=t at *;unfold Ko at this;split at this
 .omega
 split at this
 .omega
 split at this
 case isFalse h2=>omega
 rename_i h2;unfold Ip at h2;rw[if_neg (by omega)]at h2;split at h2
 .omega
 have hn:ff (kD t l.Enums) t.Rows.length=none:=by
  cases hf:ff (kD t l.Enums) t.Rows.length with
  |none=>rfl
  |some v=>
   rw[hf]at h2;obtain⟨k,_,h3,_⟩:=Oa.1 hf
   grind[kD]
 obtain⟨k,b,rfl⟩:=bab hr;have c:=Hb.1 hn k b;unfold kD at c;rw[Maa b]at c;dsimp only at c;split at c
 .grind
 rename_i hw;unfold vD at hw;have a:mT t.Rows[k].N t.Value l.Enums=true:=by
  simp_all
 unfold mT at a;simp only[Vaa,decide_eq_true_eq]at a;have:=bnd4 (t:=t.Value) (e:=l.Enums) hk;omega
theorem DM{l:GLaw}(h:Valid l) {env:GEnv}(ht:env.Tables=l.Tables) (hm:env.Members.length<=1048576):EnvOk env:=⟨by rw[ht];exact h.rowsN,hm⟩
def qC(l:GLaw) (x:GScope):GScope:=if h:0<=x.MemberScope/\x.MemberScope<(l.Scopes.length:Int)then l.Scopes[x.MemberScope.toNat]'(by omega)else⟨Raa #[],0,[],[],[]⟩
theorem KK{l:GLaw}(h:LawOk l) (x:GScope):ScE (qC l x):=by
 unfold qC;split
 .grind[uL]
 .exact⟨⟨by simp,by simp,by simp⟩,by simp⟩
theorem LG{l:GLaw}(hl:LawOk l) (j:Valid l) {i:Nat}(hi:i<l.Scopes.length) {d:Int}:∀m∈JK l.Scopes[i] d,0<=m/\m<((qC l l.Scopes[i]).Defs.length:Int):=by
 intro m hm;have hx:=uL hl (Qaa hi);unfold JK at hm;rw[(qe _).2.2,List.mem_flatMap]at hm;obtain⟨r,hr,hm⟩:=hm;have hr:=(bac.1 hr).1;obtain⟨k,hk,rfl⟩:=bab hr;have ht:=iE (j.rule hi hk);have hn:=hx.n _ (Qaa hk);have a:((Jo l l.Scopes[i]).MemberDefs.length:Int)=((qC l l.Scopes[i]).Defs.length:Int):=by
  grind[Jo,qC]
 rw[←a];have of:∀e:List GNode,(∀n∈e,Xa n)->(Uj e (Jo l l.Scopes[i])).2.2=0->m∈Eu js e->0<=m/\m<((Jo l l.Scopes[i]).MemberDefs.length:Int):=by
  intro e c h2 b;unfold Eu at b;rw[(qe _).2.2,iac]at b;obtain⟨n,f,rfl⟩:=b;obtain⟨g,h⟩:=bac.1 f;exact PJ c h2 n g h
 grind[YD,Eu,Wc,Uac]
theorem GV{l:GLaw}(hl:LawOk l) (b:Valid l) {i:Nat}(hi:i<l.Scopes.length) {d:Int}:(JK l.Scopes[i] d).length<=1048576:=by
 have h1:=gF (a:=JK l.Scopes[i] d) (lo:=0) (hi:=((qC l l.Scopes[i]).Defs.length:Int)) (qe _).1 (LG hl b hi);have:=(KK hl l.Scopes[i]).ok.defs;omega
theorem Valid.fk{l:GLaw}(b:Valid l) {i:Nat}(hi:i<l.Scopes.length):∀f∈l.Scopes[i].Inputs,ja f.Type_ l.Enums=true:=by
 intro f hf;obtain⟨k,hk,rfl⟩:=bab hf;have h:=b.s i hi;generalize l.Scopes[i]=x at h hk⊢;unfold dh at h
 repeat' split at h
 all_goals first|(simp at h;done)|skip
 .rename_i v hv;exact(Qz UO hv h).elim
 .rename_i v hv;exact(Qz lK hv h).elim
 .rename_i v hv;exact(Qz oL hv h).elim
 .have a:ff (gS l x) x.Inputs.length=none:=by omega
  have:=Hb.1 a k hk;unfold gS at this;rw[Maa hk]at this
  grind[Tt]
theorem Valid.mem0{l:GLaw}(h:Valid l):∀x∈l.Enums,0<x.Members.length:=by
 intro x hx;obtain⟨i,hi,rfl⟩:=bab hx;have h1:=h.e i hi
 grind[Tf]
theorem vC{t:GType}{e:List GEnum}(hv:ja t e=true):(t.Kind=1/\t.Enum=0/\og t e=(0,1))\/(t.Kind=2/\t.Enum=0/\og t e=(-1000000000000,1000000000000))\/(t.Kind=3/\t.Enum=0/\og t e=(-1000000000000000,1000000000000000))\/
 (t.Kind=4/\t.Enum=0/\og t e=(-1000000000,1000000000))\/(t.Kind=5/\t.Enum=0/\og t e=(0,109572))\/(t.Kind=6/\0<=t.Enum/\t.Enum<(e.length:Int)/\∃x∈e,og t e=(0,ca .i64 ((x.Members.length:Int)-1))):=by
 have hb:=Cn t e;unfold Mf at hb;rw[Qa,Kaa,hv]at hb;simp only[jab,if_false]at hb;unfold ja at hv;by_cases a:t.Kind=6
 .rw[if_pos a]at hv;simp only[Vaa,decide_eq_true_eq]at hv;simp only[a,Taa,if_false]at hb
  grind[Ng]
 .rw[if_neg a]at hv;simp only[Vaa,decide_eq_true_eq,beq_iff_eq]at hv;rcases(by omega:t.Kind=1\/t.Kind=2\/t.Kind=3\/t.Kind=4\/t.Kind=5)with h|h|h|h|h<;>simp only[h,Taa,if_true,if_false,wab]at hb<;>simp[h,hv.2,←hb]
theorem Hv{l:GLaw}(e:Valid l) {t:GType}(hv:ja t l.Enums=true):(og t l.Enums).1<=(og t l.Enums).2/\∀n,(og t l.Enums).1<=n->n<=(og t l.Enums).2->ic ⟨t.Kind,t.Enum,n⟩:=by
 have hne:=e.ne;unfold ic;rcases vC hv with⟨d,h2,c⟩|⟨d,h2,c⟩|⟨d,h2,c⟩|⟨d,h2,c⟩|⟨d,h2,c⟩|⟨d,h2,h4,x,hx,c⟩
 all_goals rw[c]
 all_goals first|(refine⟨by decide,λn a b=>?_⟩;simp_all)|skip
 have m0:=e.mem0 x hx;have m1:=e.mem x hx
 grind[wid]
theorem gI(lo:Int):∀{k i:Nat},i<k->(fI lo k)[i]?=some (lo+i)
 |k+1,i,h=>by
  have hl:=pw lo k;unfold fI;by_cases hi:i<k
  .rw[Qab (by omega)];exact gI lo hi
  grind
theorem X1{l:GLaw}(b:Valid l) {t:GType}(hv:ja t l.Enums=true) (cuts:List Int):0<(vH t l.Enums cuts).length/\∀x∈vH t l.Enums cuts,(og t l.Enums).1<=x/\x<=(og t l.Enums).2:=by
 have hb:=(Hv b hv).1;unfold vH;rw[if_neg (by omega)];by_cases hk:t.Kind=1\/t.Kind=6
 .rw[if_pos hk,pw];refine⟨by omega,λx hx=>?_⟩;obtain⟨i,hi,rfl⟩:=bab hx;have a:=hi;rw[pw]at a;have:=gI (og t l.Enums).1 a
  grind
 .rw[if_neg hk];have hd:=qe ([(og t l.Enums).1]++cuts.filter λc=>decide ((og t l.Enums).1<=c)&&decide (c<=(og t l.Enums).2));constructor
  .have:=wad ((hd.2.2 (og t l.Enums).1).2 (by simp));omega
  simp_all
theorem gA(l:GLaw) (gs:List (List GNode)) (s:GScope):∀k,k<=s.Inputs.length->(Ci l gs s k).length=k
 |0,_=>rfl
 |k+1,h=>by
  have ih:=gA l gs s k (by omega)
  grind[Ci]
theorem uG(l:GLaw) (gs:List (List GNode)) (s:GScope):∀k,k<=s.Inputs.length->∀i (hi:i<k) (h2:i<s.Inputs.length),(Ci l gs s k)[i]?=some (PE l gs s.Inputs[i] i)
 |k+1,h,i,hi,h2=>by
  have hl:=gA l gs s k (by omega);unfold Ci;by_cases a:i<k
  .rw[Qab (by omega)];exact uG l gs s k (by omega) i a h2
  grind
structure GridOk (l:GLaw) (s:GScope) (sc d date:Int) (g:List (List Int)):Prop where
 cv:(Nl l).Code=0
 csc:0<=sc/\sc<(l.Scopes.length:Int)
 cs:l.Scopes[sc.toNat]?=some s
 cd:0<=d/\d<(s.Defs.length:Int)
 cdt:0<=date/\date<=109572
 flat:∀e∈Al s d date,Fm e (Jo l s)=true
 eq:g=Ci l (Al s d date) s s.Inputs.length
 len:g.length=s.Inputs.length
 row:∀i (h:i<s.Inputs.length),g[i]?=some (PE l (Al s d date) s.Inputs[i] i)
 pos:∀r∈g,0<r.length/\r.length<=1099511627776
 le:bf g<=4096
theorem jQ{l:GLaw}(h:LawOk l) {sc d date:Int}(a:(tn l sc d date).2=0):∃s,GridOk l s sc d date (tn l sc d date).1:=by
 unfold tn at a⊢;split at a
 .omega
 split at a
 .omega
 split at a
 .omega
 split at a
 .omega
 split at a
 .omega
 split at a
 .omega
 split at a
 .omega
 rename_i hv p _ s o hd k m hc;rw[if_neg hv,if_neg p];(try (rw[o];dsimp only));rw[if_neg hd,if_neg k,if_neg m,if_neg hc];have t:=Au (cab.1 hv);have hi:sc.toNat<l.Scopes.length:=by omega
 have hsi:l.Scopes[sc.toNat]=s:=by simp_all
 have b:∀e∈Al s d date,Fm e (Jo l s)=true:=λe he=>by
  simp_all
 have j:=gA l (Al s d date) s s.Inputs.length (dab _);have c:=uG l (Al s d date) s s.Inputs.length (dab _);have q:=h.s s (qab o);have hinv:=Bp (l:=l) t.mem (gs:=Al s d date) (by have:=aB s d date;have:=q.2.1.rules;omega) (λg a=>Yr (b g a)) s s.Inputs.length;have f:∀r∈Ci l (Al s d date) s s.Inputs.length,0<r.length:=λr hr=>by
  obtain⟨i,n,rfl⟩:=bab hr;have h2:i<s.Inputs.length:=by omega
  have e:=c i h2 h2;rw[Maa n]at e;rw[oab e];unfold PE;split
  .have hvt:ja s.Inputs[i].Type_ l.Enums=true:=t.fk hi _ (by simp_all)
   grind[X1]
  simp
 exact⟨s,cab.1 hv,by omega,o,by omega,by omega,b,rfl,j,λi hi=>c i hi hi,λr hr=>⟨f r hr,by grind⟩,show bf (Ci l (Al s d date) s s.Inputs.length)<=4096 from bU f (by omega)⟩
theorem YA{e:List GNode}{s:GSignature}(h:Fm e s=true):∀i,i<e.length->uq e i=true:=by
 simp_all[Fm,Hb]
theorem Ty{e:List GNode}(hw:Wst e) (hf:∀i,i<e.length->uq e i=true) (env:GEnv):(∀i,i<e.length->NodeP e env i)/\ib e env=some (No e env (e.length-1)):=by
 have hn:∀i,i<e.length->NodeP e env i:=MK hw λj a hl=>nG (by grind[Up,aA]) ((ZA (hf j a)).resolve_right λh=>hl (by omega));exact⟨hn,(XN hw (hn _ (by have:=hw.pos;omega))).1⟩
theorem LM{e:List GNode}(hw:Wst e) (hf:∀i,i<e.length->uq e i=true) (env:GEnv):Ns (ib e env):=by
 have hn:∀i,i<e.length->NodeP e env i:=(Ty hw hf env).1;have:=XN hw (hn _ (by have:=hw.pos;omega));exact⟨_,this.1,this.2⟩
theorem DK{s:GScope}{d date x:Int}(hx:x∈(xa s d date).1) (h0:(tt s x).length≠0):tt s x∈Al s d date:=by
 unfold Al rG;rw[bac];exact⟨iac.2 ⟨x,hx,rfl⟩,by grind⟩
noncomputable def Fq(l:GLaw) (s:GScope) (d date:Int) (env:GEnv):Int:=RE (xa s d date).2.1 (xa s d date).2.2 (Hz s (xa s d date).1 env)
theorem My(s:GScope) (d date:Int):(xa s d date).2.1.length=(xa s d date).1.length/\(xa s d date).1.length<=s.Rules.length:=by
 have h:=Jn (rules:=s.Rules) (q:=Cu d date) s.Rules.length;exact⟨h.2.2,h.2.1⟩
def Sx(l:GLaw) (s:GScope) (date:Int) (g:List (List Int)) (c:List Int):GEnv:=⟨date,xz s.Inputs g c,[],[],[],l.Tables⟩
theorem type7{N:Int}{s:GSignature}{r:GType×Int}(h:Ja ⟨7,N⟩ [] s=some r) (h0:r.2=0):∃t,0<=N/\s.Inputs[N.toNat]?=some t/\r.1=t:=by
 have hu:=Fa (op:=7) (by omega);have a:tc 7=true:=rfl;unfold Ja sa sb at h;simp only[hu,a,Ha,Uu]at h;by_cases hr:0<=N/\N<(s.Inputs.length:Int)
 .refine⟨s.Inputs[N.toNat]'(by omega),hr.1,Maa (by omega),?_⟩;have e1:¬N<0:=by omega
  have e2:¬(s.Inputs.length:Int)<=N:=by omega
  rw[Ng hr.1 hr.2]at h;generalize s.Inputs[N.toNat]'(by omega)=t at h⊢;cases hv:ja t s.Enums
  all_goals grind
 grind
theorem VS{e:List GNode}{s:GSignature}(hN:∀n∈e,Xa n) (h:Fm e s=true) (g:(Aa e (e.length-1)).Op=7):∃t,0<=(Aa e (e.length-1)).N/\s.Inputs[(Aa e (e.length-1)).N.toNat]?=some t/\t.Kind=1:=by
 have hw:=Yr h;unfold Fm at h;simp only[Vaa,decide_eq_true_eq,beq_iff_eq]at h;obtain⟨⟨f,d,-⟩,-⟩:=h;unfold Uj at f d;rw[vu hw]at f d;simp only[if_true]at f d;have hpos:=hw.pos
 cases hf:ff (Iu e s) e.length with
 |some v=>
  rw[hf]at f;obtain⟨i,-,hv,-⟩:=Oa.1 hf;unfold Iu at hv
  grind
 |none=>
  rw[hf]at d;have ht:=Hb.1 hf;have a:=ht (e.length-1) (by omega);have b:=qy hw hN (i:=e.length-1) (by omega) (λj hj=>ht j (by omega));have hinv:=(pv hw hN e.length (dab _) ht).1;have hone:=hw.one;have k:Oc e (e.length-1)=0:=by unfold Oc;rw[g];decide
  rw[k,ead,List.drop_length]at b;unfold Iu at a;split at a
  case isFalse=>simp_all
  rename_i l;have es:Ps e s e.length=Ps e s (e.length-1)++[(By e s (Ps e s (e.length-1)) (e.length-1)).1]:=by
   conv=>lhs;rw[show e.length=(e.length-1)+1 by omega]
   simp_all[Ps]
  have c:Ps e s (e.length-1)=[]:=by
   grind
  rw[es,c]at d;rw[c]at b l;simp at d;generalize Aa e (e.length-1)=n at g b⊢;obtain⟨op,N⟩:=n;dsimp only at g;subst g;obtain⟨t,t1,t2,t3⟩:=type7 b l
  simp_all
theorem SU{p:Int->Prop}:∀{l:List Int},(∃x∈l,p x)->∃x∈l,p x/\∀y∈l,p y->y<=x
 |[],h=>by simp_all
 |a::l,h=>by
  by_cases hl:∃x∈l,p x
  .obtain⟨x,h1,h2,h3⟩:=SU hl
   grind
  simp_all
theorem Jaa{l:GLaw}(e:Valid l) {t:GType}(hv:ja t l.Enums=true) (cuts:List Int) {v:Int}(d:(og t l.Enums).1<=v) (h2:v<=(og t l.Enums).2) :
 ∃a:Nat,∃w,(vH t l.Enums cuts)[a]?=some w/\(w=v\/(t.Kind≠1/\t.Kind≠6/\(og t l.Enums).1<=w/\w<=v/\∀c∈cuts,c<=v->c<=w)):=by
 have hb:=(Hv e hv).1;unfold vH;rw[if_neg (by omega)];by_cases hk:t.Kind=1\/t.Kind=6
 .rw[if_pos hk];exact⟨(v-(og t l.Enums).1).toNat,v,by grind[gI],.inl rfl⟩
 .rw[if_neg hk];have hd:=qe ([(og t l.Enums).1]++cuts.filter λc=>decide ((og t l.Enums).1<=c)&&decide (c<=(og t l.Enums).2));generalize Wc _=R at hd⊢;have b:∀x,x∈R↔x=(og t l.Enums).1\/(x∈cuts/\(og t l.Enums).1<=x/\x<=(og t l.Enums).2):=λx=>by
   simp_all
  obtain⟨w,m1,m2,m3⟩:=SU (l:=R) (p:=λx=>x<=v) ⟨_,(b _).2 (.inl rfl),d⟩;obtain⟨a,ha,rfl⟩:=bab m1;have hw:=(b _).1 m1;refine⟨a,_,Maa ha,.inr ⟨λh=>hk (.inl h),λh=>hk (.inr h),by omega,m2,λc hc hcv=>?_⟩⟩
  grind
theorem MF{e:List GNode}{k x:Int}:∀{n i:Nat},i<n->x∈cutAt e k i->x∈bl e k n
 |n+1,i,h,hx=>by
  unfold bl;rw[Jab];by_cases hi:i=n
  .simp_all
  .exact .inl (MF (by omega) hx)
theorem GD{gs:List (List GNode)}{e:List GNode}{k x:Int}:∀{n j:Nat},j<n->gs[j]?=some e->x∈bl e k e.length->x∈Gc gs k n
 |n+1,j,h,he,hx=>by
  unfold Gc;rw[Jab];by_cases hj:j=n
  .simp_all
  .exact .inl (GD (by omega) he hx)
theorem oU{gs:List (List GNode)}{e:List GNode}(he:e∈gs) {i:Nat}(hi:i<e.length) (hc:lz (Aa e i).Op=true) {k:Int}{c:GNode}(hs:Hy e i=some (k,c)) (h6:c.Op≠6) :
 c.N∈Wc (Gc gs k gs.length)/\(c.N<9223372036854775807->c.N+1∈Wc (Gc gs k gs.length)):=by
 obtain⟨j,a,rfl⟩:=bab he;have key:∀x,x∈cutAt gs[j] k i->x∈Wc (Gc gs k gs.length):=λx hx=>
  ((qe _).2.2 x).2 (GD a (Maa a) (MF hi hx))
 grind[cutAt]
theorem DD{P:Nat->Nat->Prop}:∀n,(∀i,i<n->∃a,P i a)->∃c:List Int,c.length=n/\∀i,i<n->∃a:Nat,c[i]?=some (a:Int)/\P i a
 |0,_=>⟨[],rfl,λi h=>absurd h (by omega)⟩
 |n+1,h=>by
  obtain⟨c,h1,h2⟩:=DD n λi hi=>h i (by omega);obtain⟨a,ha⟩:=h n (by omega);refine⟨c++[(a:Int)],by grind,λi hi=>?_⟩
  grind
theorem iJ:∀{g:List (List Int)}{c:List Int},c.length=g.length->(∀r∈g,r.length<=1099511627776)->(∀(i:Nat) (r:List Int),g[i]?=some r->∃a:Int,c[i]?=some a/\0<=a/\a<(r.length:Int))->Fb g c
 |[],[],_,_,_=>trivial
 |l::g,a::c,h,hl,hi=>by
  obtain⟨b,d,h2,h3⟩:=hi 0 l rfl;have:=oab d;exact⟨⟨by omega,by omega,hl l (by simp)⟩,iJ (by simp_all) (λr hr=>hl r (by grind)) λi r hr=>hi (i+1) r (by simp_all)⟩
structure InpOk (l:GLaw) (s:GScope) (fk:List GValue):Prop where
 len:fk.length=s.Inputs.length
 ty:∀i (h:i<s.Inputs.length) (h2:i<fk.length),fk[i].Kind=s.Inputs[i].Type_.Kind/\fk[i].Enum=s.Inputs[i].Type_.Enum/\(og s.Inputs[i].Type_ l.Enums).1<=fk[i].N/\fk[i].N<=(og s.Inputs[i].Type_ l.Enums).2
theorem RS{gs:List (List GNode)}{e:List GNode}(he:e∈gs) {i:Nat}(hi:i<e.length) (h7:(Aa e i).Op=7):rp gs (Aa e i).N=true:=by
 unfold rp;rw[Cad];refine⟨e,he,Cad.2 ⟨e[i],Qaa hi,?_⟩⟩
 grind[Qe]
theorem AG{fs:List GField}{g:List (List Int)}{c:List Int}{i:Nat}(hi:i<fs.length):(xz fs g c)[i]?=some (Lw fs g c i):=by
 grind[xz]
theorem cell_of{l:GLaw}{s:GScope}{sc d date:Int}{g:List (List Int)}(ho:GridOk l s sc d date g) {fk:List GValue}(hi:InpOk l s fk) :
 ∃c,Fb g c/\∀e∈Al s d date,InSame e (xz s.Inputs g c) fk:=by
 have n:=Au ho.cv;have B:sc.toNat<l.Scopes.length:=by have:=ho.csc;omega
 have hes:l.Scopes[sc.toNat]=s:=by
  have:=ho.cs
  simp_all
 have b:∀i (h:i<s.Inputs.length),ja s.Inputs[i].Type_ l.Enums=true:=λi h=>n.fk B _ (by simp_all);obtain⟨c,t,u⟩:=DD (P:=λi a=>∀h:i<s.Inputs.length,∀h2:i<fk.length,∃w,(PE l (Al s d date) s.Inputs[i] i)[a]?=some w/\(og s.Inputs[i].Type_ l.Enums).1<=w/\w<=(og s.Inputs[i].Type_ l.Enums).2/\
  (rp (Al s d date) i=true->w=fk[i].N\/(s.Inputs[i].Type_.Kind≠1/\s.Inputs[i].Type_.Kind≠6/\w<=fk[i].N/\∀c∈Wc (Gc (Al s d date) i (Al s d date).length),c<=fk[i].N->c<=w))) s.Inputs.length (λi h=>by
  have h2:i<fk.length:=by rw[hi.len];exact h
  have ht:=hi.ty i h h2;by_cases hr:rp (Al s d date) i=true
  .obtain⟨a,w,F,M⟩:=Jaa n (b i h) (Wc (Gc (Al s d date) i (Al s d date).length)) ht.2.2.1 ht.2.2.2;refine⟨a,λ_ _=>⟨w,by simp_all[PE],?_⟩⟩
   grind
  .refine⟨0,λ_ _=>⟨0,by simp_all[PE],?_,?_,λh=>absurd h hr⟩⟩
   all_goals grind[vC])
 have f:∀i (h:i<s.Inputs.length),Lw s.Inputs g c i=⟨s.Inputs[i].Type_.Kind,s.Inputs[i].Type_.Enum,(Lw s.Inputs g c i).N⟩:=λi h=>by
  grind[Lw]
 have hw:∀i (h:i<s.Inputs.length) (h2:i<fk.length),∃a:Nat,c[i]?=some (a:Int)/\(PE l (Al s d date) s.Inputs[i] i)[a]?=some (Lw s.Inputs g c i).N/\(og s.Inputs[i].Type_ l.Enums).1<=(Lw s.Inputs g c i).N/\(Lw s.Inputs g c i).N<=(og s.Inputs[i].Type_ l.Enums).2/\
  (rp (Al s d date) i=true->(Lw s.Inputs g c i).N=fk[i].N\/(s.Inputs[i].Type_.Kind≠1/\s.Inputs[i].Type_.Kind≠6/\(Lw s.Inputs g c i).N<=fk[i].N/\∀x∈Wc (Gc (Al s d date) i (Al s d date).length),x<=fk[i].N->x<=(Lw s.Inputs g c i).N)):=λi h h2=>by
  obtain⟨a,ha,L⟩:=u i h;obtain⟨w,F,M,w3,w4⟩:=L h h2;have e:(Lw s.Inputs g c i).N=w:=by
   unfold Lw;simp[List.getD_eq_getElem?_getD,ho.row i h,ha,F]
  grind
 refine⟨c,iJ (by rw[t,ho.len]) (λr hr=>(ho.pos r hr).2) λi r hr=>?_,λe he=>?_⟩
 .have h:i<s.Inputs.length:=by rw[←ho.len];grind
  obtain⟨a,ha,ha2,-⟩:=hw i h (by rw[hi.len];exact h);rw[ho.row i h]at hr
  grind
 .refine⟨by unfold xz;simp[hi.len],λv hv=>?_,λv hv=>?_,λk v w hk C h2=>?_⟩
  .obtain⟨i,o,rfl⟩:=bab hv;have h:i<s.Inputs.length:=by grind[xz]
   obtain⟨a,-,-,p,q,-⟩:=hw i h (by rw[hi.len];exact h);have e:(xz s.Inputs g c)[i]=Lw s.Inputs g c i:=by have:=AG (g:=g) (c:=c) h;grind
   rw[e,f i h];exact(Hv n (b i h)).2 _ p q
  .obtain⟨i,o,rfl⟩:=bab hv;have h:i<s.Inputs.length:=by rw[←hi.len];omega
   obtain⟨t1,t2,D,E⟩:=hi.ty i h o;have:=(Hv n (b i h)).2 _ D E;rw[←t1,←t2]at this;omega
  .have h:k<s.Inputs.length:=by rw[←hi.len];grind
   have m:k<fk.length:=by grind
   rw[AG h]at C;obtain rfl:=oab C;rw[Maa m]at h2;obtain rfl:=oab h2;obtain⟨t1,t2,D,E⟩:=hi.ty k h m;obtain⟨i,A,J,hN⟩:=hk;have hr:=RS he A J;rw[hN]at hr;obtain⟨a,-,-,p,q,G⟩:=hw k h m;have ev:=f k h;have ek:(Lw s.Inputs g c k).Kind=s.Inputs[k].Type_.Kind:=congrArg GValue.Kind ev;have ee:(Lw s.Inputs g c k).Enum=s.Inputs[k].Type_.Enum:=congrArg GValue.Enum ev;rcases G hr with z|⟨k1,k2,k3,k4⟩
   .left;rw[ev,z,←t1,←t2]
   .right;have hkb:1<=s.Inputs[k].Type_.Kind/\s.Inputs[k].Type_.Kind<=6:=by
     have:=((Hv n (b k h)).2 _ p q).range
     grind
    refine⟨by omega,by omega,by omega,by omega,λj K y x hx I=>?_⟩;obtain⟨H,c2⟩:=oU he K y hx I;have d1:=k4 _ H;have hsm:x.N<9223372036854775807\/¬x.N<9223372036854775807:=by omega
    have hbb:=vC (b k h)
    grind
def bad3(f:GFact):Prop:=f.Id<0\/(f.Member < -1\/8<=f.Member)\/(f.Input < -1\/12<=f.Input)\/(f.Member = -1/\f.Input = -1)\/neB f.Valid=false\/(f.Recorded<0\/109572<f.Recorded)
instance (f:GFact):Decidable (bad3 f):=by unfold bad3;infer_instance
def bad8(f:GFact):Prop:=(f.Value.Kind<1\/6<f.Value.Kind)\/(f.Input = -1/\¬f.Value.Kind=1)
instance (f:GFact):Decidable (bad8 f):=by unfold bad8;infer_instance
def below(g f:GFact):Prop:=g.Recorded<f.Recorded\/(g.Recorded=f.Recorded/\g.Id<=f.Id)
instance (g f:GFact):Decidable (below g f):=by unfold below;infer_instance
theorem dI{l:List GField}(hl:l.length<=1048576) {step:List GType×Int->Option (Ex (List GType×Int) (List GType) Unit)}
 (c:∀a b,step (a,b)=if b<(l.length:Int)then(idx l b).bind λd=>(app 16 a ([d.Type_])).bind λe=>some (Ex.go (e,(ca .i64 (b+1))))else some (Ex.brk a)):da step (([]:List GType),0)=some (.inl (l.map (·.Type_))):=by
 refine Rc (λi=>((l.take i).map (·.Type_),(i:Int))) l.length _ (λi hi=>?_) ?_ rfl
 .have h2:(l.take i).length<=l.length:=by grind
  rw[c,if_pos (by omega),Ca hi,Kaa,wi (by grind),Kaa,ya (by omega),tab,Maa hi]
  grind
 simp_all
theorem yG{α:Type}{l:List α}{i:Int}(h:(idx l i).isSome=true):∃x,idx l i=some x:=Option.isSome_iff_exists.1 h
theorem LO{l:GLaw}(n:Valid l) {x ms:GScope}(hx:ScE x) (f:ScE ms) {c:GCase}(hc:c.Members.length<=1048576) {w g:List Bool}(hmk:w.length=x.Defs.length) (hmm:g.length=ms.Defs.length) (i:Int) :
 ∃p,We l i c ⟨⟨x.Name,x.MemberScope,x.Inputs,x.Defs,x.Rules⟩,⟨ms.Name,ms.MemberScope,ms.Inputs,ms.Defs,ms.Rules⟩,w,g⟩=some p/\(p.2.2.Code=0->ScopeR x.Defs.length p.1.Values p.1.Rules/\EnvOk p.2.1):=by
 have h:=f.ok.defs;unfold We;dsimp only;rw[dI (l:=ms.Defs) h (step:=Df ⟨⟨x.Name,x.MemberScope,x.Inputs,x.Defs,x.Rules⟩,⟨ms.Name,ms.MemberScope,ms.Inputs,ms.Defs,ms.Rules⟩,w,g⟩) (λa b=>by grind[Df]),Kaa];dsimp only;have k:=tQ (s:=fe l c ⟨⟨x.Name,x.MemberScope,x.Inputs,x.Defs,x.Rules⟩,⟨ms.Name,ms.MemberScope,ms.Inputs,ms.Defs,ms.Rules⟩,w,g⟩)
  (λa=>∃j:Nat,j<=c.Members.length/\a.2.2=(j:Int)/\a.1.length=j/\a.2.1.length=j) (λa=>(c.Members.length-a.2.2).toNat)
  (λa=>a.1.length=c.Members.length) (λa=>∃e:GEvalError,e.Code≠0/\a=(⟨[],[],[]⟩,⟨0,[],[],[],[],[]⟩,e)) (by
   rintro⟨m,t,a3⟩ ⟨j,j1,o,y,z⟩;dsimp only at o y z;subst o;unfold fe;dsimp only;by_cases u:j<c.Members.length
   case neg=>
    rw[if_neg (by omega)]
    grind
   rw[if_pos (by omega)];rw[Ca u];simp only[Kaa];have he:EnvOk (GEnv.mk c.Date c.Members[j] [] [] [] l.Tables):=DM n rfl (by simp);rcases LQ f he (w:=g) (by omega) (j:Int)with⟨v,r,s1,q⟩|⟨e,d,s0,s1⟩
   .rw[show Ya ⟨ms.Name,ms.MemberScope,ms.Inputs,ms.Defs,ms.Rules⟩ _ _ _=_ from s1];simp only[Kaa,C0,not_true,if_false];rw[wi (by grind),Kaa,wi (by grind),Kaa,ya (by omega)];exact .inl ⟨_,rfl,⟨j+1,by omega,rfl,by simp_all,by simp_all⟩,by grind⟩
   simp_all) (x:=(([]:List (List GValue)),([]:List GMemberResult),0)) ⟨0,Dab _,rfl,rfl,rfl⟩
 rcases k with⟨⟨m,t⟩,g1,g4⟩|⟨a,g1,e,e0,rfl⟩
 .dsimp only at g4;rw[g1];simp only[Kaa];have he:EnvOk (GEnv.mk c.Date c.Inputs [] m (ms.Defs.map (·.Type_)) l.Tables):=DM n rfl (by simp_all);rcases LQ hx he (w:=w) (by omega) (-1)with⟨v,r,s1,q⟩|⟨e,d,s0,s1⟩
  .rw[show Ya ⟨x.Name,x.MemberScope,x.Inputs,x.Defs,x.Rules⟩ _ _ _=_ from s1];simp only[Kaa,C0,not_true,if_false];exact⟨_,rfl,λ_=>⟨q,he.1,he.2⟩⟩
  simp_all
 simp_all
def AI(l:GLaw) (x:GScope):List GField×Bool:=if h:0<=x.MemberScope/\x.MemberScope<(l.Scopes.length:Int)then((l.Scopes[x.MemberScope.toNat]'(by omega)).Inputs,true)else([],false)
theorem NG{l:GLaw}{i:Nat}(hi:i<l.Scopes.length):kf l (i:Int)=some ((AI l l.Scopes[i]).1,if(AI l l.Scopes[i]).2=true then 8 else 0):=by
 unfold kf AI;rw[Ca hi];simp only[Kaa,orO];generalize l.Scopes[i]=x;by_cases h:0<=x.MemberScope/\x.MemberScope<(l.Scopes.length:Int)
 .have hc:decide (x.MemberScope<0\/(l.Scopes.length:Int)<=x.MemberScope)=false:=by simp_all
  simp_all[Ng]
 grind
theorem inO{n lo hi:Int}{α:Type}{k:Bool->Option α}:(Laa (α:=Bool) (if¬n<lo then some (decide (hi<n))else some true) k)=k (!(decide (lo<=n)&&decide (n<=hi))):=by
 grind[decide]
theorem typeO{a b c d:Int}{α:Type}{k:Bool->Option α}:(Laa (α:=Bool) (if a=b then some (c !=d)else some true) k)=k (decide (¬(a=b/\c=d))):=by
 by_cases e:a=b
 .rw[if_pos e,Kaa];congr 1
  grind
 simp_all
def WJ(l:GLaw) (fs:List GField) (vs:List GValue):Prop:=vs.length=fs.length/\∀j (h1:j<vs.length) (h2:j<fs.length),vs[j].Kind=fs[j].Type_.Kind/\vs[j].Enum=fs[j].Type_.Enum/\mT vs[j].N fs[j].Type_ l.Enums=true
theorem sZ{e:List GNode}{z:GEnv}{j:Nat}(l:NodeP e z j) (d:(Aa e j).Op=7) (b:(No e z j).2=0) (g:∀v∈z.Inputs,ic v):z.Inputs[(Aa e j).N.toNat]?=some (No e z j).1:=by
 have f:Oc e j=0:=by unfold Oc;rw[d];decide
 have i:Up e z j=[]:=by grind[Up]
 have hq:No e z j=(ub (Aa e j) [] z).getD (⟨0,0,0⟩,0):=by
  rw[l.q,wK (by unfold rn;omega),f,u5,i]
 rw[hq,Un (by simp)]at b⊢;split at b
 .split at b
  .rename_i k h2;have h:([]:List GValue).all Ds=true:=rfl;rw[if_pos k,if_pos h2,if_pos h];have a:=h2;unfold Vp at a;rw[if_pos d,decide_eq_true_eq]at a;have hx:idx z.Inputs (Aa e j).N=some (z.Inputs[(Aa e j).N.toNat]'(by omega)):=Ng a.1 a.2;have c:=OA hx (decide_eq_true (g _ (Qaa _)));rw[show Pc (Aa e j) [] z=Pc ⟨7,(Aa e j).N⟩ [] z by rw[←d],c,Maa (by omega)];rfl
  simp_all
 simp_all
theorem RO{e:List GNode}{s:GSignature}(hN:∀n∈e,Xa n) (hf:Fm e s=true) {x y:GEnv}(d:InSame e x.Inputs y.Inputs) (ht:∀(k:Nat) t v,s.Inputs[k]?=some t->x.Inputs[k]?=some v->v.Kind=t.Kind):ib e x=ib e y:=by
 have hw:=Yr hf;have a:=YA hf;have hpos:=hw.pos;have hn:=TR hw a d (e.length-1) (by omega);rw[(Ty hw a x).2,(Ty hw a y).2];rcases hn.eq with h|⟨c,f,h2,b⟩
 .rw[h]
 .rcases b.kind with b|⟨k1,k2,k3,k4⟩
  .grind
  .exfalso;obtain⟨t,t0,t1,t2⟩:=VS hN hf c;have:=ht _ _ _ t1 (sZ hn.px c f d.pl);omega
theorem SS{e:List GNode}(hf:∀i,i<e.length->uq e i=true):(Bi e).2.1=[]/\(Bi e).2.2=[]:=by
 have key:∀p:GNode->Bool,(∀n:GNode,(rn n.Op\/n.Op=23\/n.Op=24)->p n=false)->Eu p e=[]:=λp hp=>by
  unfold Eu;rw[vad.2 λn hn=>?_]
  .rfl
  .obtain⟨i,hi,rfl⟩:=bab hn
   grind[Qe,ZA]
 constructor
 .exact key Od λn h=>by unfold Od;unfold rn at h;grind
 .exact key js λn h=>by unfold js;unfold rn at h;grind
theorem LH{s:GScope}(c:ScOk s) (env:GEnv) (m:Int):Ya s env m (Oaa s.Defs.length false)=some ((Oaa s.Defs.length 0,C0),{ env with Defs:=Oaa s.Defs.length ⟨0,0,0⟩ }):=by
 have hd:=c.defs;unfold Ya;rw[dw (by omega) (by omega),dw (by omega) (by omega),Kaa,Kaa,jq c,Kaa];obtain⟨a,b⟩:=SG (Tp s);rw[Xp]at a b;generalize xv (Tp s)=ord at a b⊢;rw[Rc (x0:=(Oaa s.Defs.length ⟨0,0,0⟩,Oaa s.Defs.length 0,0)) (step:=Zb s env m (Oaa s.Defs.length false) ord) (λi=>(Oaa s.Defs.length ⟨0,0,0⟩,Oaa s.Defs.length 0,(i:Int))) ord.1.length (Oaa s.Defs.length ⟨0,0,0⟩,Oaa s.Defs.length 0) (λi hi=>by
  have hx:=a _ (Qaa hi);unfold Zb;dsimp only;rw[if_pos (by omega),Ca hi,Kaa,Ng hx.1 (by simp_all),Kaa,List.getElem_replicate,if_pos rfl,Kaa,ya (by omega)]) (by simp_all[Zb]) rfl]
 rfl
theorem SR{l:GLaw}{x ms:GScope}(hx:ScOk x) (d:ScOk ms) {c:GCase}(hc:c.Members.length<=1048576) (i:Int) :
 ∃r M T,We l i c ⟨x,ms,Oaa x.Defs.length false,Oaa ms.Defs.length false⟩=some (r,⟨c.Date,c.Inputs,Oaa x.Defs.length ⟨0,0,0⟩,M,T,l.Tables⟩,C0):=by
 unfold We;dsimp only;rw[dI (l:=ms.Defs) d.defs (step:=Df ⟨x,ms,Oaa x.Defs.length false,Oaa ms.Defs.length false⟩) (λa b=>by grind[Df]),Kaa];dsimp only;rw[Rc (x0:=(([]:List (List GValue)),([]:List GMemberResult),0)) (step:=fe l c ⟨x,ms,Oaa x.Defs.length false,Oaa ms.Defs.length false⟩) (λi=>(Oaa i (Oaa ms.Defs.length ⟨0,0,0⟩),Oaa i ⟨Oaa ms.Defs.length ⟨0,0,0⟩,Oaa ms.Defs.length 0⟩,(i:Int))) c.Members.length (Oaa c.Members.length (Oaa ms.Defs.length ⟨0,0,0⟩),Oaa c.Members.length ⟨Oaa ms.Defs.length ⟨0,0,0⟩,Oaa ms.Defs.length 0⟩) (λi hi=>by
  unfold fe;dsimp only;rw[if_pos (by omega),Ca hi,Kaa,LH d,Kaa];simp only[C0,not_true,if_false]
  grind[wi,ya,List.replicate_succ']) (by simp_all[fe]) rfl,Kaa]
 dsimp only;rw[LH hx,Kaa];simp only[C0,not_true,if_false];simp
noncomputable def PX(l:GLaw) (fs:List GField) (vs:List GValue) (i:Nat):Option (Int×Int):=
 match vs[i]?,fs[i]? with
 |some v,some f=>if¬(v.Kind=f.Type_.Kind/\v.Enum=f.Type_.Enum)then some ((i:Int),8)else if mT v.N f.Type_ l.Enums=false then some ((i:Int),3)else none
 |_,_=>none
theorem Jz{l:GLaw}{fs:List GField}(vs:List GValue) (hl:fs.length<=1048576):∃p,Tc l vs fs=some p/\(p.2=0->WJ l fs vs):=by
 unfold Tc;by_cases b:(vs.length:Int)<(fs.length:Int)
 .simp_all
 by_cases h2:(fs.length:Int)<(vs.length:Int)
 .rw[if_neg b,if_pos h2];simp
 rw[if_neg b,if_neg h2];have a:da (me l vs fs) 0=some (jc () (ff (PX l fs vs) vs.length)):=
  bc (λi=>(i:Int)) _ _ _ (λi hi _=>by
   unfold me PX;rw[if_pos (by omega),Ca hi,Kaa,Ca (by omega),Kaa,typeO,oi,Kaa,inO,Maa hi,Maa (show i<fs.length by omega),ya (by omega)];dsimp only;by_cases ht:vs[i].Kind=(fs[i]'(by omega)).Type_.Kind/\vs[i].Enum=(fs[i]'(by omega)).Type_.Enum
   .grind[mT,sG]
   .rw[decide_eq_true ht,if_pos rfl,if_pos ht];rfl) (λ_=>by simp_all[me])
 rw[a]
 cases hf:ff (PX l fs vs) vs.length with
 |some v=>
  refine⟨v,rfl,λh=>?_⟩;obtain⟨i,-,hv,-⟩:=Oa.1 hf;unfold PX at hv
  grind
 |none=>
  refine⟨_,rfl,λ_=>⟨by omega,λj c j2=>?_⟩⟩;have:=Hb.1 hf j c
  grind[PX]
noncomputable def FV(l:GLaw) (fs:List GField) (ms:List (List GValue)) (i:Nat):Option (Int×Int×Int):=
 match ms[i]? with
 |some v=>(Tc l v fs).bind λp=>if¬p.2=0 then some ((i:Int),p.1,p.2)else none
 |none=>none
theorem RP{l:GLaw}(h:LawOk l) {i:Nat}(hi:i<l.Scopes.length) {c:GCase}(hc:c.Members.length<=1048576):∃p,Ni l (i:Int) c=some p/\(p.2.2=0->WJ l l.Scopes[i].Inputs c.Inputs):=by
 have a:=(h.s _ (Qaa hi)).2.2.1;have d:(AI l l.Scopes[i]).1.length<=1048576:=by
  unfold AI;split
  .exact(h.s _ (Qaa _)).2.2.1
  simp
 unfold Ni;rw[orO,if_neg (by simp_all),orO];by_cases hd:c.Date<0\/109572<c.Date
 .simp_all
 rw[if_neg (by simp_all),Ca hi,Kaa];obtain⟨p,k,m⟩:=Jz (l:=l) (fs:=l.Scopes[i].Inputs) c.Inputs a;rw[k,Kaa];by_cases f:p.2=0
 case neg=>simp_all
 rw[if_neg (cab.2 f),NG hi,Kaa];dsimp only;have hv:=m f;generalize (if(AI l l.Scopes[i]).2=true then(8:Int)else 0)=mx;by_cases e:mx<(c.Members.length:Int)
 .simp_all
 rw[if_neg e];have b:da (Of l c ((AI l l.Scopes[i]).1,mx)) 0=some (jc () (ff (FV l (AI l l.Scopes[i]).1 c.Members) c.Members.length)):=
  bc (λi=>(i:Int)) _ _ _ (λj g _=>by
   unfold Of FV;dsimp only;obtain⟨q,q1,-⟩:=Jz (l:=l) (fs:=(AI l l.Scopes[i]).1) c.Members[j] d;rw[if_pos (by omega),Ca g,Kaa,q1,Kaa,Maa g,ya (by omega)]
   grind[sG]) (λ_=>by simp_all[Of])
 rw[b]
 cases ff (FV l (AI l l.Scopes[i]).1 c.Members) c.Members.length with
 |some v=>grind
 |none=>exact⟨_,rfl,λ_=>hv⟩
theorem WJ.fk{l:GLaw}{s:GScope}{vs:List GValue}(h:WJ l s.Inputs vs):InpOk l s vs:=by
 refine⟨h.1,λi d h2=>?_⟩;obtain⟨a,b,c⟩:=h.2 i h2 d
 simp_all[mT]
theorem iM{l:GLaw}(h:LawOk l) {sc d:Int}{s:GScope}{g:List (List Int)}{date:Int}(ho:GridOk l s sc d date g) {c:GCase}(hc:c.Members.length<=1048576):∃e,Nb l sc c true d=some e/\(e.Code=0->InpOk l s c.Inputs):=by
 obtain⟨i,rfl⟩:∃i:Nat,sc=(i:Int):=⟨sc.toNat,by have:=ho.csc;omega⟩;have hi:i<l.Scopes.length:=by have:=ho.csc;omega
 have b:l.Scopes[i]=s:=by
  have:=ho.cs
  simp_all
 have hd:=ho.cd;unfold Nb;rw[yq h,Kaa,if_neg (cab.2 ho.cv),Ca hi,Kaa,b];have a:(if¬(i:Int)<0 then if¬(l.Scopes.length:Int)<=(i:Int)then if true=true then if¬d<0 then some (decide ((s.Defs.length:Int)<=d))else some true else some false else some true else some true)=some false:=by
  simp_all
 rw[a,Kaa,if_neg (by simp)];obtain⟨p,k,j⟩:=RP h hi hc;rw[k,Kaa];by_cases f:p.2.2=0
 .rw[if_neg (cab.2 f)];exact⟨_,rfl,λ_=>by rw[b]at j;exact(j f).fk⟩
 simp_all
theorem Z1{N:Int}{ops:List GType}{s:GSignature}{p:GType×Int}(hr:Ja ⟨8,N⟩ ops s=some p) (hp:p.2=0):0<=N/\N<(s.Defs.length:Int):=by
 rcases Vae (0<=N/\N<(s.Defs.length:Int))with hc|hc
 .omega
 exfalso;have hu:=Fa (op:=8) (by omega);have hus:tc 8=true:=rfl;unfold Ja sa sb at hr
 grind
theorem IP{e:List GNode}{s:GSignature}(hN:∀n∈e,Xa n) (h:(Uj e s).2.2=0):∀n∈e,∃ops p,Ja n ops s=some p/\p.2=0:=by
 unfold Uj at h;split at h
 case isFalse h2=>simp_all
 rename_i b;have hw:=DA b;have hn:ff (Iu e s) e.length=none:=by
  grind[Iu,Oa]
 intro n a;obtain⟨j,hj,rfl⟩:=bab a
 grind[Iu,Hb,Qe,qy]
theorem V1{l:GLaw}(hl:LawOk l) (d:Valid l) {i:Nat}(hi:i<l.Scopes.length) {k:Nat}(hk:k<l.Scopes[i].Rules.length) :
 (∀x∈(Bi l.Scopes[i].Rules[k].Guard).2.1,0<=x/\x<(l.Scopes[i].Defs.length:Int))/\(∀x∈(Bi l.Scopes[i].Rules[k].Guard).2.2,0<=x/\x<((qC l l.Scopes[i]).Defs.length:Int)):=by
 have hr:=d.rule hi hk;have hN:=((hl.s _ (Qaa hi)).2.2.2.2.2 _ (Qaa hk)).2.2.1;have ht:=(iE hr).1;generalize l.Scopes[i].Rules[k].Guard=e at hN ht⊢;have hsd:(Jo l l.Scopes[i]).Defs=l.Scopes[i].Defs.map (·.Type_):=by grind[Jo]
 have hsm:(Jo l l.Scopes[i]).MemberDefs.length=(qC l l.Scopes[i]).Defs.length:=by
  grind[Jo,qC]
 have key:∀(p:GNode->Bool) x,x∈Eu p e->∃n∈e,p n=true/\n.N=x:=λp x hx=>by
  unfold Eu at hx;have:=((qe _).2.2 x).1 hx
  grind
 constructor
 .intro x hx;obtain⟨n,hn,b,rfl⟩:=key _ _ hx;have a:0<e.length:=wad hn;obtain⟨ops,p,c,h2⟩:=IP hN (ht a) n hn;unfold Od at b;obtain⟨op,N⟩:=n;simp only[beq_iff_eq]at b;subst b;have:=Z1 c h2
  simp_all
 .intro x hx;obtain⟨n,hn,b,rfl⟩:=key _ _ hx;have a:0<e.length:=wad hn;have:=PJ hN (ht a) n hn b;omega
theorem Wy{n:Nat}{l:List Int}(hl:l.length<=1048576) {step:List Bool×Int->Option (Ex (List Bool×Int) (List Bool) Unit)}{g:List Bool->Int->Option (List Bool)}
 (e:∀a:List Bool,a.length=n->∀m∈l,∃q,g a m=some q/\q.length=n)
 (f:∀a b,step (a,b)=if b<(l.length:Int)then(idx l b).bind λx=>(g a x).bind λq=>some (.go (q,ca .i64 (b+1)))else some (.brk a)) {a:List Bool} (ha:a.length=n):∃q,da step (a,0)=some (.inl q)/\q.length=n:=by
 refine aN (step:=step) (λs:List Bool×Int=>∃i:Nat,s.2=(i:Int)/\i<=l.length/\s.1.length=n) (λs:List Bool×Int=>((l.length:Int)-s.2).toNat) (λq:List Bool=>q.length=n) ?_ _ (a,0) (dab _) ⟨0,rfl,Dab _,ha⟩;rintro⟨a,b⟩ ⟨i,c,h2,d⟩;dsimp only at c d;subst c;rw[f];by_cases hi:i<l.length
 .obtain⟨q,q1,h⟩:=e a d _ (Qaa hi);rw[if_pos (by omega),Ca hi,Kaa,q1,Kaa,ya (by omega)];exact .inl ⟨_,rfl,⟨i+1,rfl,by omega,h⟩,by omega⟩
 grind
theorem tF{n:Nat}{a:List Bool}(ha:a.length=n) {x:Int}(hx:0<=x/\x<(n:Int)):∃y q,idx a x=some y/\put a x true=some q/\q.length=n:=by
 obtain⟨k,rfl⟩:=fac hx.1
 simp_all[Ca,yv]
theorem TX{s:GScope}(c:ScOk s) (d:Int):∃l,vc s d=some l/\l.length<=1048576/\∀x∈l,0<=x/\x<(s.Defs.length:Int):=by
 obtain⟨l,a,h2,b⟩:=kq c d;exact⟨l,a,h2,λx hx=>kz ((b x).1 hx)⟩
theorem H5{s:GScope}(e:ScOk s) {a:List Bool}(ha:a.length=s.Defs.length) {d:Int}(hd:0<=d/\d<(s.Defs.length:Int)):∃q,Je s.Name s.MemberScope s.Inputs s.Defs s.Rules a d=some q/\q.length=s.Defs.length:=by
 obtain⟨y,q,h1,h2,c⟩:=tF ha hd;obtain⟨l,w1,f,w3⟩:=TX e d;obtain⟨r,r1,r2⟩:=Wy (n:=s.Defs.length) f (step:=Zg l) (g:=λa x=>(idx a x).bind λ_=>put a x true) (λa ha m hm=>by
  grind[tF]) (λa b=>by
  grind[Zg]) c
 unfold Je
 simp_all
theorem Y9{s:GScope}(c:ScOk s) {a:List Bool}(ha:a.length=s.Defs.length) {d:Int}(hd:0<=d/\d<(s.Defs.length:Int)):∃q,Yg s.Name s.MemberScope s.Inputs s.Defs s.Rules a d=some q/\q.length=s.Defs.length:=by
 obtain⟨q,b,h2⟩:=H5 c ha hd;refine⟨q,?_,h2⟩;rw[←b];rfl
theorem mark2{s ms:GScope}(h:ScOk s) (f:ScOk ms) {a b:List Bool}(ha:a.length=s.Defs.length) (hb:b.length=ms.Defs.length) {d:Int}(hd:0<=d/\d<(s.Defs.length:Int)) (e:∀m∈JK s d,0<=m/\m<(ms.Defs.length:Int)) (c:(JK s d).length<=1048576) :
 ∃q r,Xg s.Name s.MemberScope s.Inputs s.Defs s.Rules ms.Name ms.MemberScope ms.Inputs ms.Defs ms.Rules a b d=some (q,r)/\q.length=s.Defs.length/\r.length=ms.Defs.length:=by
 obtain⟨y,q,i,h2,j⟩:=tF ha hd;obtain⟨l,o,p,w3⟩:=TX h d;obtain⟨r,k,r2⟩:=Wy (n:=s.Defs.length) p (step:=bh l) (g:=λa x=>(idx a x).bind λ_=>put a x true) (λa ha m hm=>by
  grind[tF]) (λa b=>by
  grind[bh]) j
 obtain⟨t,t1,t2⟩:=Wy (n:=ms.Defs.length) c (step:=ah ms.Name ms.MemberScope ms.Inputs ms.Defs ms.Rules (JK s d)) (g:=λa m=>Je ms.Name ms.MemberScope ms.Inputs ms.Defs ms.Rules a m) (λa ha m hm=>H5 f ha (e m hm)) (λa b=>by grind[ah]) hb;unfold Xg;rw[i,Kaa,h2,Kaa,show vc ⟨s.Name,s.MemberScope,s.Inputs,s.Defs,s.Rules⟩ d=some l from o,Kaa,k,Kaa];dsimp only;rw[show Ei ⟨s.Name,s.MemberScope,s.Inputs,s.Defs,s.Rules⟩ d=some (JK s d)from PA h hd,Kaa,t1]
 grind
noncomputable def pick(s:GScope) (d date o:Int):Int:=if o<0 then o else(xa s d date).1.getD o.toNat 0
noncomputable def UR(s:GScope) (rules:List Int) (env:GEnv) (m d:Int) (k:Nat):Option (Int×GEvalError):=
 if((tt s (rules.getD k 0)).length:Int)=0 then none else(ib (tt s (rules.getD k 0)) env).bind λp=>if¬p.2=0 then some (0,⟨p.2,m,d,rules.getD k 0⟩)else none
theorem yP{s:GScope}(y:s.Rules.length<=1048576) {env:GEnv}(m d:Int) (ht:∀x∈(xa s d env.Date).1,(tt s x).length≠0->Ns (ib (tt s x) env)) :
 ∃p,Xe s env m d=some p/\(p.2.Code=0->p.1=pick s d env.Date (RE (xa s d env.Date).2.1 (xa s d env.Date).2.2 (Hz s (xa s d env.Date).1 env))/\∀x∈(xa s d env.Date).1,(tt s x).length≠0->∃p,ib (tt s x) env=some p/\p.2=0)/\((∀x∈(xa s d env.Date).1,(tt s x).length≠0->∃p,ib (tt s x) env=some p/\p.2=0)->p.2=⟨0,0,0,0⟩):=by
 have t:=My s d env.Date;have hm:=Bj (rules:=s.Rules) (q:=Cu d env.Date) s.Rules.length;have j:∀x∈(xa s d env.Date).1,0<=x/\x<(s.Rules.length:Int):=λx hx=>⟨(hm x hx).1,(hm x hx).2.1⟩;unfold Xe;rw[Ap y,Kaa];unfold pick;have f:=vL (xa s d env.Date).2.1 (xa s d env.Date).2.2 (Hz s (xa s d env.Date).1 env);generalize hT:xa s d env.Date=T at ht t j f⊢;rw[dw (by omega) (by omega),Kaa];have n:da (ie s env m d T) (Oaa T.1.length false,0)=some (jc (Hz s T.1 env) (ff (UR s T.1 env m d) T.1.length)):=by
  refine bc (λi=>((Zaa T.1.length).map λk=>if k<i then gT (tt s (T.1.getD k 0)) env else false,(i:Int))) (UR s T.1 env m d) T.1.length _ (λi hi _=>?_) (λ_=>?_) ?_
  .have hx:=j _ (Qaa hi);have g:=ht _ (Qaa hi);have er:T.1.getD i 0=T.1[i]:=by simp_all
   have w:tt s T.1[i]=(s.Rules[T.1[i].toNat]'(by omega)).Guard:=by grind[tt]
   unfold ie UR;dsimp only;rw[if_pos (by omega),Ca hi,Kaa,Ng hx.1 hx.2,Kaa,er,←w];have l:((Zaa T.1.length).map λk=>if k<i then gT (tt s (T.1.getD k 0)) env else false).set i (gT (tt s T.1[i]) env)=(Zaa T.1.length).map λk=>if k<i+1 then gT (tt s (T.1.getD k 0)) env else false:=by
    apply Sab (by simp)
    grind
   rw[←l];have b:i<((Zaa T.1.length).map λk=>if k<i then gT (tt s (T.1.getD k 0)) env else false).length:=by simp_all
   generalize ((Zaa T.1.length).map λk=>if k<i then gT (tt s (T.1.getD k 0)) env else false)=a at b⊢;generalize tt s T.1[i]=e at g⊢;unfold gT;by_cases c:(e.length:Int)=0
   .rw[if_pos c,if_pos c,if_pos c,Ca b,Kaa,yv b,Kaa,Kaa,ya (by omega)];rfl
   .obtain⟨p,u,-⟩:=g (by omega);rw[if_neg c,if_neg c,if_neg c,u,Kaa,Kaa];by_cases h2:p.2=0
    .rw[if_neg (cab.2 h2),if_neg (cab.2 h2),Ca b,Kaa,yv b,Kaa,Kaa,ya (by omega)]
     grind[sG]
    .rw[if_pos h2,if_pos h2];rfl
  .simp_all[ie,Hz]
  .refine Prod.ext ?_ rfl;apply Sab (by simp);simp
 rw[n,Kaa]
 cases hf:ff (UR s T.1 env m d) T.1.length with
 |some v=>
  obtain⟨k,hkl,hv,-⟩:=Oa.1 hf;have r:v.2.Code≠0/\(tt s (T.1.getD k 0)).length≠0/\∀q,ib (tt s (T.1.getD k 0)) env=some q->q.2≠0:=by
   unfold UR at hv;split at hv
   .grind
   .rename_i hz
    cases he:ib (tt s (T.1.getD k 0)) env with
    |none=>simp_all
    |some q=>
     grind
  refine⟨v,rfl,λh=>absurd h r.1,λhall=>?_⟩
  grind
 |none=>
  rw[bW];dsimp only;have hg:∀x∈T.1,(tt s x).length≠0->∃p,ib (tt s x) env=some p/\p.2=0:=λx hx c=>by
   obtain⟨k,hk,rfl⟩:=bab hx;obtain⟨p,u,-⟩:=ht _ hx c;have:=Hb.1 hf k hk
   grind[UR]
  rw[Mq,Kaa];generalize RE T.2.1 T.2.2 (Hz s T.1 env)=o at f⊢;by_cases ho:o<0
  .simp_all
  .unfold zG at f;rw[if_neg ho,if_neg ho,Ng (by omega) (by omega),Kaa]
   grind
theorem zQ{l:GLaw}(hl:LawOk l) (f:Valid l) {i:Nat}(hi:i<l.Scopes.length):dj l l.Scopes[i]=some (l.Scopes[i].Name,l.Scopes[i].MemberScope,l.Scopes[i].Inputs,l.Scopes[i].Defs,l.Scopes[i].Rules,(qC l l.Scopes[i]).Name,(qC l l.Scopes[i]).MemberScope,(qC l l.Scopes[i]).Inputs,(qC l l.Scopes[i]).Defs,(qC l l.Scopes[i]).Rules,Oaa l.Scopes[i].Defs.length false,Oaa (qC l l.Scopes[i]).Defs.length false):=by
 have hx:=uL hl (Qaa hi);have e:=KK hl l.Scopes[i];have hb:=(f.few hi).1;have d:=hx.ok.defs;have a:=e.ok.defs;unfold dj;generalize l.Scopes[i]=x at hb d a⊢;rw[dw (by omega) (by omega),Kaa];by_cases c:0<=x.MemberScope
 .have b:x.MemberScope<(l.Scopes.length:Int):=by
   grind[Mw]
  unfold qC at a⊢;rw[dif_pos ⟨c,b⟩]at a⊢;rw[if_pos c,Ng c b,Kaa,dw (by omega) (by omega)];rfl
 grind[qC]
theorem UJ{l:GLaw}(h:LawOk l) {sc d:Int}{s:GScope}{g:List (List Int)}{c:GCase}(ho:GridOk l s sc d c.Date g) (hc:c.Members.length<=1048576) :
 ∃p,Ie l sc c d=some p/\(p.2.Code=0->InpOk l s c.Inputs/\∃env:GEnv,env.Inputs=c.Inputs/\p.1=pick s d c.Date (Fq l s d c.Date env))/\
  (Nb l sc c true d=some C0->(∀env:GEnv,env.Inputs=c.Inputs->∀x∈(xa s d c.Date).1,(tt s x).length≠0->∃p,ib (tt s x) env=some p/\p.2=0)->p.2=⟨0,0,0,0⟩):=by
 obtain⟨i,rfl⟩:∃i:Nat,sc=(i:Int):=⟨sc.toNat,by have:=ho.csc;omega⟩;have hi:i<l.Scopes.length:=by have:=ho.csc;omega
 have j:l.Scopes[i]=s:=by
  have:=ho.cs
  simp_all
 have D:=Au ho.cv;have f:=h.s s (qab ho.cs);have o:=f.2.1.rules;have n:=KK h l.Scopes[i];have hm:=Bj (rules:=s.Rules) (q:=Cu d c.Date) s.Rules.length;have v:=(Jn (rules:=s.Rules) (q:=Cu d c.Date) s.Rules.length).2.1;have b:∀x∈(xa s d c.Date).1,(tt s x).length≠0->Fm (tt s x) (Jo l s)=true:=λx hx a=>ho.flat _ (DK hx a);unfold Ie;obtain⟨e,A,B⟩:=iM h ho hc;rw[A,Kaa];by_cases a:e.Code=0
 case neg=>rw[if_pos a];exact⟨_,rfl,λh=>absurd h a,λh=>by have:=oab h;rw[this]at a;exact absurd rfl a⟩
 have m:=B a;rw[if_neg (cab.2 a),Ca hi,Kaa,zQ h D hi,Kaa];dsimp only;rw[j];rw[j]at n;rw[Fo o,Kaa];have w:(zi s.Rules (Cu d c.Date) s.Rules.length).1=(xa s d c.Date).1:=rfl;rw[w]at hm v⊢;have C:∀env:GEnv,∀x∈(xa s d c.Date).1,(tt s x).length≠0->Ns (ib (tt s x) env):=λenv x hx t=>LM (Yr (b x hx t)) (YA (b x hx t)) env;rw[Rc (x0:=(Oaa s.Defs.length false,Oaa (qC l s).Defs.length false,0)) (λk=>(Oaa s.Defs.length false,Oaa (qC l s).Defs.length false,(k:Int))) (xa s d c.Date).1.length (Oaa s.Defs.length false,Oaa (qC l s).Defs.length false) (λk hk=>by
  have hx:=hm _ (Qaa hk);have hf:=b _ (Qaa hk);have y:(s.Rules[(xa s d c.Date).1[k].toNat]'(by omega)).Guard=tt s (xa s d c.Date).1[k]:=by grind[tt]
  unfold pd;dsimp only;rw[if_pos (by omega),Ca hk,Kaa,Ng hx.1 hx.2.1,Kaa,y];have hgl:(tt s (xa s d c.Date).1[k]).length<=1048576:=by rw[←y];exact(f.2.1.g _ (Qaa _)).1
  have hr:(Bi (tt s (xa s d c.Date).1[k])).2.1=[]/\(Bi (tt s (xa s d c.Date).1[k])).2.2=[]:=by
   by_cases t:(tt s (xa s d c.Date).1[k]).length=0
   .rw[Uac.1 t];exact⟨rfl,rfl⟩
   grind[SS,YA]
  rw[wg (by omega),Kaa];generalize Bi (tt s (xa s d c.Date).1[k])=r at hr⊢;rw[Ue (by unfold Me;dsimp only;rw[hr.1,if_neg (by simp)]),Kaa];dsimp only;rw[Ue (by unfold Ke;dsimp only;rw[hr.2,if_neg (by simp)]),Kaa]
  grind[ya]) (by simp_all[pd]) rfl,Kaa]
 dsimp only;obtain⟨r,M,T,u⟩:=SR (l:=l) (x:=s) (ms:=qC l s) f.2.1 n.ok hc (i:Int);rw[show We l (i:Int) c ⟨⟨s.Name,s.MemberScope,s.Inputs,s.Defs,s.Rules⟩,⟨(qC l s).Name,(qC l s).MemberScope,(qC l s).Inputs,(qC l s).Defs,(qC l s).Rules⟩,Oaa s.Defs.length false,Oaa (qC l s).Defs.length false⟩=_ from u,Kaa];simp only[C0,not_true,if_false];obtain⟨p,E,F,p3⟩:=yP (s:=s) o (env:=⟨c.Date,c.Inputs,Oaa s.Defs.length ⟨0,0,0⟩,M,T,l.Tables⟩) (-1) d (C _);rw[E,Kaa];by_cases z:p.2.Code=0
 case neg=>simp_all
 rw[if_neg (cab.2 z)];exact⟨_,rfl,λ_=>⟨m,_,rfl,(F z).1⟩,λ_ _=>rfl⟩
theorem cW{l:GLaw}(h:LawOk l) {s:GScope}{sc d date:Int}{g:List (List Int)}(ho:GridOk l s sc d date g) {fk:List GValue}(hi:InpOk l s fk) {env:GEnv}(he:env.Inputs=fk) :
 ∃c,Fb g c/\Fq l s d date env=Fq l s d date (Sx l s date g c):=by
 obtain⟨c,hc,m⟩:=cell_of ho hi;refine⟨c,hc,?_⟩;have hsm:=h.s s (qab ho.cs);have hm:=Bj (rules:=s.Rules) (q:=Cu d date) s.Rules.length;unfold Fq;congr 1;unfold Hz;apply Kac;intro k hk;have hk:=Gac.1 hk;have er:(xa s d date).1.getD k 0=(xa s d date).1[k]:=by simp_all
 have a:(xa s d date).1[k]∈(xa s d date).1:=Qaa hk;rw[er];generalize (xa s d date).1[k]=x at a;have hx:=hm x a;unfold gT;by_cases j:((tt s x).length:Int)=0
 .simp_all
 rw[if_neg j,if_neg j];have i:=DK a (by omega);have hN:∀n∈tt s x,Xa n:=by
  grind[tt]
 rw[RO hN (ho.flat _ i) (x:=Sx l s date g c) (y:=env) (by rw[he];exact m _ i) λk t v ht hv=>by
  have b:(s.Inputs.map (·.Type_))[k]?=some t:=by
   grind[Jo]
  rw[List.getElem?_map]at b;obtain⟨f,hf,rfl⟩:=Option.map_eq_some_iff.1 b;have hk:k<s.Inputs.length:=(List.getElem?_eq_some_iff.1 hf).1;have e:(xz s.Inputs g c)[k]?=some v:=hv;rw[AG hk]at e;obtain rfl:=oab e
  grind[Lw]]
theorem uH{rules:List GRule}{q:GRule->Bool}:∀i,(zi rules q i).1.Pairwise (·<·)
 |0=>by simp_all[zi]
 |i+1=>by
  have ih:=uH (rules:=rules) (q:=q) i;have hm:=Bj (rules:=rules) (q:=q) i
  grind[zi]
noncomputable def pb(p:Prop):Bool:=@decide p (Classical.propDecidable p)
theorem TC{p:Prop}:pb p=true↔p:=by simp_all[pb]
noncomputable def Nz(rules:List Int) (A:Nat->Prop):List Int:=((Zaa rules.length).filter λi=>!pb (A i)).map λi=>rules.getD i 0
theorem getD_lt{l:List Int}{i:Nat}(h:i<l.length):l.getD i 0=l[i]:=by simp_all
theorem wR(rules:List Int) (A:Nat->Prop):(Nz rules A).length<=rules.length:=by
 grind[Nz]
theorem xR{rules:List Int}(hr:rules.length<=1048576) {A:Nat->Prop}{step:List Int×Int->Option (Ex (List Int×Int) (List Int) Unit)}(b:∀i,(h:i<rules.length)->∀a,a.length<=i->step (a,(i:Int))=some (.go ((if pb (A i)=true then a else a++[rules[i]]),((i+1:Nat):Int)))) (he:∀a,step (a,(rules.length:Int))=some (.brk a)) :
 da step (([]:List Int),0)=some (.inl (Nz rules A)):=by
 have hl:∀i,(((Zaa i).filter λi=>!pb (A i)).map λi=>rules.getD i 0).length<=i:=λi=>by
  grind
 refine Rc (λi=>(((Zaa i).filter λi=>!pb (A i)).map λi=>rules.getD i 0,(i:Int))) rules.length _ (λi hi=>?_) ?_ rfl
 .rw[b i hi _ (hl i),Lac,aac,Tab]
  grind
 .rw[he];rfl
def Dv(l:GLaw) (s:GScope) (d date:Int) (g:List (List Int)) (i:Nat):Prop:=∃c,Fb g c/\Fq l s d date (Sx l s date g c)=(i:Int)
structure DeadI (l:GLaw) (s:GScope) (d date:Int) (g:List (List Int)) (a:List Bool):Prop where
 len:a.length=(xa s d date).1.length
 all:∀i:Nat,a[i]?=some true->Dv l s d date g i
theorem MH{l:GLaw}(h:LawOk l) {s:GScope}{sc d date:Int}{g:List (List Int)}(ho:GridOk l s sc d date g) (fk:List GValue) :
 Qc ⟨s,l.Tables,date,(xa s d date).1,(xa s d date).2.1,(xa s d date).2.2⟩ fk=some (Fq l s d date ⟨date,fk,[],[],[],l.Tables⟩):=by
 have c:=h.s s (qab ho.cs);have htl:=My s d date;have hrl:=c.2.1.rules;have hm:=Bj (rules:=s.Rules) (q:=Cu d date) s.Rules.length;have b:∀x∈(xa s d date).1,0<=x/\x<(s.Rules.length:Int):=λx hx=>⟨(hm x hx).1,(hm x hx).2.1⟩;have ht:∀(env:GEnv),∀x∈(xa s d date).1,(tt s x).length≠0->Ns (ib (tt s x) env):=λenv x hx e=>by
  have hf:=ho.flat _ (DK hx e)
  grind[LM,Yr,YA]
 unfold Qc;dsimp only;rw[dw (by omega) (by omega),Kaa,fillB (step:=Vc ⟨s,l.Tables,date,(xa s d date).1,(xa s d date).2.1,(xa s d date).2.2⟩ fk) (f:=λk=>gT (tt s ((xa s d date).1.getD k 0)) ⟨date,fk,[],[],[],l.Tables⟩) (λi hi a ha=>by
  unfold Vc;dsimp only;rw[if_pos (by omega),SO hi b (ht _) ha,Kaa,ya (by omega)]) (λa=>by simp_all[Vc]),Kaa]
 dsimp only;rw[Mq];rfl
theorem EJ{l:GLaw}(h:LawOk l) {s:GScope}{sc d date:Int}{g:List (List Int)}(ho:GridOk l s sc d date g):tg l sc d date=some ⟨s,l.Tables,date,(xa s d date).1,(xa s d date).2.1,(xa s d date).2.2⟩:=by
 have a:=h.s s (qab ho.cs);have es:l.Scopes[sc.toNat]'(by have:=ho.csc;omega)=s:=by
  have:=ho.cs
  grind
 unfold tg;rw[Ng ho.csc.1 ho.csc.2,Kaa,es,Ap a.2.1.rules];rfl
theorem NK{l:GLaw}{s:GScope}{d date:Int}{env:GEnv}(h:0<=Fq l s d date env):Fq l s d date env<((xa s d date).1.length:Int):=by
 have a:=vL (xa s d date).2.1 (xa s d date).2.2 (Hz s (xa s d date).1 env);rw[(My s d date).1]at a;unfold Fq at h⊢;unfold zG at a;omega
theorem pT{l:GLaw}(h:LawOk l) {sc d date:Int}{s:GScope}{g:List (List Int)}(z:tn l sc d date=(g,0)) (ho:GridOk l s sc d date g) :
 De l sc d date=some (Nz (xa s d date).1 (Dv l s d date g),0):=by
 have m:=h.s s (qab ho.cs);have htl:=My s d date;have hrl:=m.2.1.rules;have hgl:g.length<=1048576:=by rw[ho.len];omega
 unfold De;rw[Rs h,z,Kaa,if_neg (by simp),EJ h ho,Kaa];dsimp only;rw[dw (by omega) (by omega),Kaa,dw (by omega) (by omega),Kaa];obtain⟨u,B⟩:=ZT ho.pos;obtain⟨a,y,h2,h3⟩:=jO (g:=g) (step:=Ah (g,0) ⟨s,l.Tables,date,(xa s d date).1,(xa s d date).2.1,(xa s d date).2.2⟩) (λ_ a=>DeadI l s d date g a) (λa c=>Fq l s d date (Sx l s date g c)<0\/a[(Fq l s d date (Sx l s date g c)).toNat]?=some true) (λa=>a) (λa c hc t=>by
  unfold Ah;dsimp only;rw[if_pos rfl];have v:kl (g,0) ⟨s,l.Tables,date,(xa s d date).1,(xa s d date).2.1,(xa s d date).2.2⟩ c=some (xz s.Inputs g c):=by
   unfold kl;rw[yJ m.2.2.1 ho.len hc (step:=xl (g,0) ⟨s,l.Tables,date,(xa s d date).1,(xa s d date).2.1,(xa s d date).2.2⟩ c) (λa i=>by grind[xl])];rfl
  have w:ql (g,0) c=some (Yk g c):=by
   grind[ql,xp,P4]
  rw[v,Kaa,MH h ho,Kaa,w];have x:Fq l s d date ⟨date,xz s.Inputs g c,[],[],[],l.Tables⟩=Fq l s d date (Sx l s date g c):=rfl;rw[x];by_cases n:0<=Fq l s d date (Sx l s date g c)
  .have p:=NK n;have j:=t.len;generalize q:Fq l s d date (Sx l s date g c)=o at n p⊢;obtain⟨k,rfl⟩:=fac n;rw[if_pos n,Ca (by omega),Kaa,yv (by omega),Kaa,Kaa,Kaa];refine⟨_,rfl,⟨by simp_all,λi hi=>?_⟩,.inr ?_,λc' hc'=>?_⟩
   .by_cases f:i=k
    .subst f;exact⟨c,hc,q⟩
    .rw[List.getElem?_set_ne (λh=>f h.symm)]at hi;exact t.all i hi
   all_goals grind
  grind) (λa c=>by simp_all[Ah]) u B (s0:=Oaa (xa s d date).1.length false) ⟨by simp,λi h=>by
   grind⟩
 rw[y,Kaa];dsimp only;have j:=h2.len;have htl2:(xa s d date).1.length<=1048576:=by omega
 rw[xR (A:=Dv l s d date g) (rules:=(xa s d date).1) (step:=zh ⟨s,l.Tables,date,(xa s d date).1,(xa s d date).2.1,(xa s d date).2.2⟩ a) (by omega) (λi hi b hb=>by
  unfold zh;dsimp only;rw[if_pos (by omega),Ca hi,Kaa,Ca (by omega),Kaa,ya (by omega)];have e:a[i]'(by omega)=true↔Dv l s d date g i:=by
   constructor
   .intro ht;exact h2.all i (by simp_all)
   .rintro⟨c,hc,hoc⟩
    grind
  by_cases r:Dv l s d date g i
  .simp_all[TC]
  .have hf:a[i]'(by omega)=false:=Iac.2 λh=>r (e.1 h);rw[if_pos hf,wi (by grind),if_neg (λh=>r (TC.1 h))];rfl) (λb=>by simp_all[zh])]
 rfl
theorem PL(c:GCase):∃b,Kn c=some b/\(b=true->c.Members.length<=10):=by
 unfold Kn;by_cases a:14<(c.Inputs.length:Int)
 .simp_all
 rw[if_pos a,Kaa];by_cases h2:10<(c.Members.length:Int)
 .simp_all
 rw[if_neg (by simp_all),bc (step:=Fj c) (λi=>(i:Int)) (λi=>if(c.Members[i]?.any λx=>decide (14<(x.length:Int)))=true then some false else none) c.Members.length () (λi hi _=>by
  unfold Fj;rw[if_pos (by omega),Ca hi,Kaa,Maa hi,ya (by omega)]
  grind[sG]) (λ_=>by simp_all[Fj])]
 cases ff _ c.Members.length<;>exact⟨_,rfl,λ_=>by omega⟩
theorem iO{β ρ:Type}{g:List (List Int)}{step:List Int×Bool->Option (Ex (List Int×Bool) β ρ)}(Q:List Int->Prop) (f:List Int->ρ) (u:β)
 (r:∀c,Fb g c->Q c->step (c,true)=some (.ret (f c))) (h2:∀c,Fb g c->¬Q c->step (c,true)=some (.go (Yk g c))) (k:∀c,step (c,false)=some (.brk u))
 {i:List Int} (m:Fb g i) (hr:rk g i=0) :
 (∃c,Fb g c/\Q c/\da step (i,true)=some (.inr (f c))/\(Q i->c=i))\/((∀c,Fb g c->¬Q c)/\da step (i,true)=some (.inl u)):=by
 have key:∀(n:Nat) (c:List Int),bf g-rk g c<=n->Fb g c->(∀d,Fb g d->rk g d<rk g c->¬Q d)->(∃l,Fb g l/\Q l/\da step (c,true)=some (.inr (f l)))\/((∀c,Fb g c->¬Q c)/\da step (c,true)=some (.inl u)):=by
  intro n
  induction n with
  |zero=>intro c hn hc;have:=zH hc;omega
  |succ n ih=>
   intro c hn hc hd;by_cases hq:Q c
   .grind[nr]
   have q:=h2 c hc hq;have p:=nL hc;have ok:=XJ hc;have all:∀d,Fb g d->rk g d<rk g c+1->¬Q d:=λd j o=>by
    grind[qP]
   rw[Ul q]
   cases hb:(Yk g c).2 with
   |true=>
    grind
   |false=>
    have e:=(p.2 hb).1;rw[show Yk g c=((Yk g c).1,false) by grind,Ue (k _)];exact .inr ⟨λd j=>all d j (by simp_all[zH]),rfl⟩
 by_cases hq:Q i
 .exact .inl ⟨i,m,hq,nr (r i m hq),λ_=>rfl⟩
 rcases key _ i (dab _) m λd _ o=>by omega with⟨c,a,b,e⟩|h
 .exact .inl ⟨c,a,b,e,λh=>absurd h hq⟩
 .exact .inr h
theorem IW{rules:List GRule}{q:GRule->Bool}:∀i,∀x∈(zi rules q i).1,∃r,rules[x.toNat]?=some r/\q r=true
 |0=>λx hx=>by grind[zi]
 |i+1=>by
  have ih:=IW (rules:=rules) (q:=q) i
  grind[zi]
theorem LW{s:GScope}{d date x:Int}(hx:x∈(xa s d date).1):∃r,s.Rules[x.toNat]?=some r/\r.Def=d:=by
 obtain⟨r,h1,h2⟩:=IW (rules:=s.Rules) (q:=Cu d date) s.Rules.length x hx
 simp_all[Cu]
theorem fW{l:GLaw}{s:GScope}{d date:Int}{env:GEnv}{i:Nat}(hi:i<(xa s d date).1.length):pick s d date (Fq l s d date env)=(xa s d date).1[i]↔Fq l s d date env=(i:Int):=by
 have hinc:∀(i j:Nat) (hi:i<(xa s d date).1.length) (hj:j<(xa s d date).1.length),i<j->(xa s d date).1[i]<(xa s d date).1[j]:=zac.1 (uH (rules:=s.Rules) (q:=Cu d date) s.Rules.length);have hm:=Bj (rules:=s.Rules) (q:=Cu d date) s.Rules.length;have h0:=(hm _ (Qaa hi)).1;unfold pick;constructor
 .intro h;by_cases hn:Fq l s d date env<0
  .omega
  .have hlt:=NK (Zae.1 hn)
   grind
 grind
theorem BZ{l:GLaw}(ht:NL l) (sc d date:Int):∃b,ts l sc d date=some b/\(b=true->SmallL l):=by
 unfold ts;obtain⟨b,hb,e⟩:=QE l;rw[hb,Kaa]
 cases b with
 |false=>simp
 |true=>
  have h:=(e rfl).ok ht;have hl:=(aS h sc d date).1;rw[if_neg (by simp),IB h,Kaa];generalize tn l sc d date=g at hl⊢;obtain⟨b,c,-⟩:=aN (step:=xq g) (λs=>∃j:Nat,s.2=(j:Int)/\j<=g.1.length) (λs=>(g.1.length-s.2).toNat) (λ_=>True) (by
   rintro⟨a,b⟩ ⟨j,c,h2⟩;dsimp only at c;subst c;unfold xq;dsimp only;by_cases f:j<g.1.length
   .rw[if_pos (by omega),Kaa,Ca f,Kaa,ya (by omega)];by_cases ha:a<=600
    .rw[if_pos (by simp_all)];exact .inl ⟨_,rfl,⟨j+1,rfl,by omega⟩,by omega⟩
    .rw[if_neg (by simp_all)];simp
   .rw[if_neg (by omega),Kaa,if_neg (by simp)];simp) _ (1,0) (dab _) ⟨0,rfl,Dab _⟩
  simp_all
theorem oT{l:GLaw}(h:LawOk l) {sc d date:Int}(a:(tn l sc d date).2≠0):De l sc d date=some ([],(tn l sc d date).2)/\rH l sc d date=some ([],(tn l sc d date).2):=by
 unfold De rH;rw[Rs h,IB h,Kaa,Kaa,if_pos a,if_pos a];simp
theorem has_s{l:List Int}(hl:l.length<=1048576) (n:Int):Yv l n=some (l.any λx=>decide (x=n)):=by
 unfold Yv;rw[bc (step:=wq l n) (λi=>(i:Int)) (λi=>if(l[i]?.any λx=>decide (x=n))=true then some true else none) l.length () (λi hi _=>by
  unfold wq;rw[if_pos (by omega),Ca hi,Kaa,Maa hi,ya (by omega)]
  grind[sG]) (λ_=>by simp_all[wq]),←pn (l:=l) (q:=λx=>decide (x=n)) (g:=λ_=>true)]
 cases a:ff (λi=>if(l[i]?.any λx=>decide (x=n))=true then some true else none) l.length with
 |none=>rfl
 |some v=>
  obtain⟨i,-,h2,-⟩:=Oa.1 a;split at h2
  .rw[←oab h2];rfl
  simp_all
theorem zU{l:GLaw}{s:GScope}{d date:Int}{A:Nat->Prop}{i:Nat}(hi:i<(xa s d date).1.length):(xa s d date).1[i]∈Nz (xa s d date).1 A↔¬A i:=by
 have hinc:∀(i j:Nat) (hi:i<(xa s d date).1.length) (hj:j<(xa s d date).1.length),i<j->(xa s d date).1[i]<(xa s d date).1[j]:=zac.1 (uH (rules:=s.Rules) (q:=Cu d date) s.Rules.length);unfold Nz;rw[iac];constructor
 .grind[TC]
 .intro hA;refine⟨i,bac.2 ⟨Gac.2 hi,?_⟩,getD_lt hi⟩
  simp_all[Iac,TC]
theorem aJ{l:GLaw}(h:LawOk l) {s:GScope}{sc d date:Int}{g:List (List Int)}(w:tn l sc d date=(g,0)) (ho:GridOk l s sc d date g) {i:Nat}(hi:i<(xa s d date).1.length) :
 (∃c,Fb g c/\Fq l s d date (Sx l s date g c)=(i:Int)/\Hc l sc (xa s d date).1[i] date=some (xz s.Inputs g c,true,0)/\(Fq l s d date (Sx l s date g (Oaa g.length 0))=(i:Int)->c=Oaa g.length 0))\/(¬Dv l s d date g i/\Hc l sc (xa s d date).1[i] date=some ([],false,0)):=by
 have o:=h.s s (qab ho.cs);have hgl:g.length<=1048576:=by rw[ho.len];omega
 have hm:=Bj (rules:=s.Rules) (q:=Cu d date) s.Rules.length;have hx:=hm _ (Qaa hi);obtain⟨r,hr1,hr2⟩:=LW (Qaa hi);have hsc:=ho.csc;have es:l.Scopes[sc.toNat]'(by omega)=s:=by
  have:=ho.cs
  simp_all
 have f:(s.Rules[(xa s d date).1[i].toNat]'(by omega)).Def=d:=by
  simp_all
 obtain⟨p,x⟩:=ZT ho.pos;have j:idx l.Scopes sc=some s:=by grind[Ng]
 have m:idx s.Rules (xa s d date).1[i]=some (s.Rules[(xa s d date).1[i].toNat]'(by omega)):=Ng hx.1 hx.2.1;have hstep:∀c,Fb g c->Ld (xa s d date).1[i] (g,0) ⟨s,l.Tables,date,(xa s d date).1,(xa s d date).2.1,(xa s d date).2.2⟩ (c,true)=if Fq l s d date (Sx l s date g c)=(i:Int)then some (.ret (xz s.Inputs g c,true,0))else some (.go (Yk g c)):=λc hc=>by
  unfold Ld;dsimp only;rw[if_pos rfl];have t:qi (g,0) ⟨s,l.Tables,date,(xa s d date).1,(xa s d date).2.1,(xa s d date).2.2⟩ c=some (xz s.Inputs g c):=by
   unfold qi;rw[yJ o.2.2.1 ho.len hc (step:=ti (g,0) ⟨s,l.Tables,date,(xa s d date).1,(xa s d date).2.1,(xa s d date).2.2⟩ c) (λa i=>by grind[ti])];rfl
  have u:si (g,0) c=some (Yk g c):=by
   grind[si,ym,P4]
  rw[t,Kaa,MH h ho,Kaa,u];have v:Fq l s d date ⟨date,xz s.Inputs g c,[],[],[],l.Tables⟩=Fq l s d date (Sx l s date g c):=rfl;rw[v];have k:=fW (l:=l) (s:=s) (d:=d) (date:=date) (env:=Sx l s date g c) hi;unfold pick at k;by_cases hn:0<=Fq l s d date (Sx l s date g c)
  .have n:=NK hn;rw[if_neg (by omega),getD_lt (by omega)]at k;rw[if_pos hn,Ng hn n,Kaa,Kaa]
   simp_all
  grind
 unfold Hc;rw[yq h,Kaa,if_neg (cab.2 ho.cv),j];have b:(if¬sc<0 then if¬(l.Scopes.length:Int)<=sc then if¬(xa s d date).1[i]<0 then((some s).bind λy=>some (decide ((y.Rules.length:Int)<=(xa s d date).1[i])))else some true else some true else some true)=some false:=by
  simp_all
 rw[b,Kaa,if_neg (by simp),Kaa,m,Kaa,f,Rs h,w,Kaa,if_neg (by simp),EJ h ho,Kaa];dsimp only;rw[dw (by omega) (by omega),Kaa];rcases iO (step:=Ld (xa s d date).1[i] (g,0) ⟨s,l.Tables,date,(xa s d date).1,(xa s d date).2.1,(xa s d date).2.2⟩) (λc=>Fq l s d date (Sx l s date g c)=(i:Int)) (λc=>(xz s.Inputs g c,true,0)) () (λc hc hq=>by simp_all) (λc hc hq=>by simp_all) (λc=>by simp_all[Ld]) p x with⟨c,hc,hq,e⟩|⟨hn,e⟩
 .grind
 .rw[e];exact .inr ⟨λ⟨c,hc,hq⟩=>hn c hc hq,rfl⟩
theorem gM{l:GLaw}(h:LawOk l) (sc d:Int) {c:GCase}(hc:c.Members.length<=1048576):∃e,Nb l sc c true d=some e/\(e.Code=0->(Nl l).Code=0/\∃i:Nat,∃hi:i<l.Scopes.length,sc=(i:Int)):=by
 unfold Nb;rw[yq h,Kaa];by_cases hv:(Nl l).Code=0
 case neg=>simp_all
 rw[if_neg (cab.2 hv)];by_cases hs:0<=sc/\sc<(l.Scopes.length:Int)
 .obtain⟨i,rfl⟩:∃i:Nat,sc=(i:Int):=⟨sc.toNat,by omega⟩;have hi:i<l.Scopes.length:=by omega
  rw[if_pos (by omega),if_pos (by omega),if_pos rfl,Ca hi,Kaa];by_cases hd:0<=d/\d<(l.Scopes[i].Defs.length:Int)
  .rw[if_pos (by omega),Kaa,decide_eq_false (by omega),if_neg (by simp)];obtain⟨p,b,p2⟩:=RP h hi hc;rw[b,Kaa];by_cases a:p.2.2=0
   .rw[if_neg (cab.2 a)];grind
   simp_all
  simp_all
 simp_all
theorem VJ{l:GLaw}(h:LawOk l) (sc d:Int) {c:GCase}(hc:c.Members.length<=1048576):∃p,Ie l sc c d=some p:=by
 unfold Ie;obtain⟨e,R,S⟩:=gM h sc d hc;rw[R,Kaa];by_cases G:e.Code=0
 case neg=>simp_all
 obtain⟨hv,i,hi,rfl⟩:=S G;have t:=Au hv;have hx:=uL h (Qaa hi);have o:=KK h l.Scopes[i];have D:=hx.ok.rules;have hm:=Bj (rules:=l.Scopes[i].Rules) (q:=Cu d c.Date) l.Scopes[i].Rules.length;have z:=(Jn (rules:=l.Scopes[i].Rules) (q:=Cu d c.Date) l.Scopes[i].Rules.length).2.1;have C:=λ{k:Nat} (hk:k<l.Scopes[i].Rules.length)=>V1 h t hi hk;have B:=λd=>LG h t hi (d:=d);have A:=λd=>GV h t hi (d:=d);rw[if_neg (cab.2 G),Ca hi,Kaa,zQ h t hi,Kaa];dsimp only;rw[Fo D,Kaa];generalize (zi l.Scopes[i].Rules (Cu d c.Date) l.Scopes[i].Rules.length).1=rules at hm z⊢;generalize hss:l.Scopes[i]=s at *;generalize qC l s=ms at *;obtain⟨b,O,P,Q⟩:=aN (step:=pd s s.Name s.MemberScope s.Inputs s.Defs s.Rules ms.Name ms.MemberScope ms.Inputs ms.Defs ms.Rules rules)
  (λq:List Bool×List Bool×Int=>∃k:Nat,q.2.2=(k:Int)/\k<=rules.length/\q.1.length=s.Defs.length/\q.2.1.length=ms.Defs.length) (λq=>((rules.length:Int)-q.2.2).toNat) (λq:List Bool×List Bool=>q.1.length=s.Defs.length/\q.2.length=ms.Defs.length) (by
   rintro⟨E,F,N⟩ ⟨k,M,k2,k3,k4⟩;dsimp only at M k3 k4;subst M;unfold pd;dsimp only;by_cases hk:k<rules.length
   case neg=>rw[if_neg (by omega)];simp_all
   have hr:=hm _ (Qaa hk);have f:=C (k:=rules[k].toNat) (by omega);have hgl:=(hx.ok.g _ (Qaa (l:=s.Rules) (n:=rules[k].toNat) (by omega))).1;rw[if_pos (by omega),Ca hk,Kaa,Ng hr.1 hr.2.1,Kaa,wg (by omega),Kaa];have y:(Bi (s.Rules[rules[k].toNat]'(by omega)).Guard).2.1.length<=1048576:=by grind[Bi,Em]
   have w:(Bi (s.Rules[rules[k].toNat]'(by omega)).Guard).2.2.length<=1048576:=by grind[Bi,Em]
   generalize Bi (s.Rules[rules[k].toNat]'(by omega)).Guard=x at f y w⊢;obtain⟨u,X,Y,Z⟩:=aN (step:=Me s.Name s.MemberScope s.Inputs s.Defs s.Rules ms.Name ms.MemberScope ms.Inputs ms.Defs ms.Rules x)
    (λq:List Bool×List Bool×Int=>∃j:Nat,q.2.2=(j:Int)/\j<=x.2.1.length/\q.1.length=s.Defs.length/\q.2.1.length=ms.Defs.length) (λq=>((x.2.1.length:Int)-q.2.2).toNat) (λq:List Bool×List Bool=>q.1.length=s.Defs.length/\q.2.length=ms.Defs.length) (by
     rintro⟨E,F,N⟩ ⟨j,J,j2,K,L⟩;dsimp only at J K L;subst J;unfold Me;dsimp only;by_cases H:j<x.2.1.length
     .obtain⟨q,r,q1,V,W⟩:=mark2 hx.ok o.ok K L (f.1 _ (Qaa H)) (B _) (A _);rw[if_pos (by omega),Ca H,Kaa,q1,Kaa];dsimp only;rw[ya (by omega)];exact .inl ⟨_,rfl,⟨j+1,rfl,by omega,V,W⟩,by grind⟩
     .rw[if_neg (by omega)];simp_all) _ (E,F,0) (dab _) ⟨0,rfl,Dab _,k3,k4⟩
   rw[X,Kaa];obtain⟨v,v1,v2⟩:=Wy (n:=ms.Defs.length) w (step:=Ke ms.Name ms.MemberScope ms.Inputs ms.Defs ms.Rules x) (g:=λa m=>Yg ms.Name ms.MemberScope ms.Inputs ms.Defs ms.Rules a m) (λa ha m hm=>Y9 o.ok ha (f.2 m hm)) (λa b=>by grind[Ke]) Z;dsimp only;rw[v1,Kaa];dsimp only;rw[ya (by omega)];exact .inl ⟨_,rfl,⟨k+1,rfl,by omega,Y,v2⟩,by grind⟩) _ (Oaa s.Defs.length false,Oaa ms.Defs.length false,0) (dab _) ⟨0,rfl,Dab _,by simp,by simp⟩
 rw[O,Kaa];dsimp only;obtain⟨p,T,U⟩:=LO t hx o hc P Q (i:Int);rw[T,Kaa];by_cases I:p.2.2.Code=0
 case neg=>simp_all
 rw[if_neg (cab.2 I)];obtain⟨q,q1,-⟩:=jM hx (U I).2 (-1) d
 grind
theorem Dx(f:Uk=some true) {l:GLaw}(ht:NL l) (a:GA2) (c:GCase):Xf l a c=some true:=by
 unfold Xf;obtain⟨b,hb,i⟩:=BZ ht a.I0 a.I1 c.Date;obtain⟨w,k,m⟩:=PL c;rw[hb,k,f];simp only[Kaa]
 cases b with
 |false=>rfl
 |true=>
  simp only[if_true,Kaa]
  cases w with
  |false=>rfl
  |true=>
   have h:=(i rfl).ok ht;have hm:=m rfl;simp only[Bool.not_true,Saa,if_false];obtain⟨p,v⟩:=VJ h a.I0 a.I1 (c:=c) (by omega);by_cases z:(tn l a.I0 a.I1 c.Date).2=0
   case neg=>simp_all[oT]
   obtain⟨s,ho⟩:=jQ h z;have e:tn l a.I0 a.I1 c.Date=((tn l a.I0 a.I1 c.Date).1,0):=by grind
   generalize (tn l a.I0 a.I1 c.Date).1=g at ho e;have u:=h.s s (qab ho.cs);have htl:=My s a.I1 c.Date;have hrl:=u.2.1.rules;have hdl:=wR (xa s a.I1 c.Date).1 (Dv l s a.I1 c.Date g);rw[pT h e ho,Kaa,v,Kaa,if_pos rfl,Kaa];by_cases he:p.2.Code=0/\p.2.Member=0/\p.2.Def=0/\p.2.Rule=0
   case neg=>
    simp_all
   rw[if_neg (by grind),has_s (l:=Nz (xa s a.I1 c.Date).1 (Dv l s a.I1 c.Date g)) (by omega)];obtain⟨q,q1,B,-⟩:=UJ h ho (c:=c) (by omega);obtain rfl:p=q:=oab (v.symm.trans q1);obtain⟨hi,env,n,d⟩:=B he.1;obtain⟨y,hc,hout⟩:=cW h ho hi n;have hnot:((Nz (xa s a.I1 c.Date).1 (Dv l s a.I1 c.Date g)).any λx=>decide (x=p.1))=false:=by
    rw[List.any_eq_false];intro x hx;simp only[decide_eq_true_eq];rintro rfl;have t:=Bj (rules:=s.Rules) (q:=Cu a.I1 c.Date) s.Rules.length;have hge:0<=p.1:=by
     unfold Nz at hx;rw[iac]at hx;obtain⟨j,o,r⟩:=hx;rw[bac,Gac]at o;rw[getD_lt o.1]at r;have:=(t _ (Qaa o.1)).1;omega
    unfold pick at d;by_cases hn:Fq l s a.I1 c.Date env<0
    .omega
    .have hlt:=NK (Zae.1 hn);rw[if_neg hn,getD_lt (by omega)]at d;rw[d]at hx;exact(zU (l:=l) (A:=Dv l s a.I1 c.Date g) (by omega)).1 hx ⟨y,hc,by omega⟩
   simp_all
def VD(k c:Int):List GNode:=[GNode.mk 7 0,GNode.mk k c,GNode.mk 21 0]
theorem DZ{k c x:Int}(hk:k=2\/k=3) {env:GEnv}(hi:env.Inputs=[⟨k,0,x⟩]) (hx:Ds ⟨k,0,x⟩=true) (hc:Ds ⟨k,0,c⟩=true):ib (VD k c) env=some (trV (decide (x<c))):=by
 have hw:Wst (VD k c):=DA (by rcases hk with rfl|rfl<;>kernel_rfl);have hf:∀i,i<(VD k c).length->uq (VD k c) i=true:=by
  intro i h;have h3:i<3:=h;rcases hk with rfl|rfl<;>rcases(by omega:i=0\/i=1\/i=2)with rfl|rfl|rfl<;>rfl
 obtain⟨hn,he⟩:=Ty hw hf env;have d:idx env.Inputs 0=some ⟨k,0,x⟩:=by rw[hi];rfl
 have a:No (VD k c) env 0=(⟨k,0,x⟩,0):=by
  rw[(hn 0 (by simp[VD])).q];unfold FO Up;rw[show Aa (VD k c) 0=⟨7,0⟩from rfl,show Oc (VD k c) 0=0 from rfl,if_neg (by decide)];show(ub ⟨7,0⟩ [] env).getD _=_;rw[Un (by decide),if_pos (by decide),if_pos (by grind[Vp]),if_pos (show([]:List GValue).all Ds=true from rfl),OA d hx];rfl
 have b:No (VD k c) env 1=(⟨k,0,c⟩,0):=by
  rw[(hn 1 (by simp[VD])).q];unfold FO Up;rw[show Aa (VD k c) 1=⟨k,c⟩from rfl,show Oc (VD k c) 1=0 by rcases hk with rfl|rfl<;>rfl,if_neg (by grind)];show(ub ⟨k,c⟩ [] env).getD _=_;rw[Un (by decide),if_pos (by rcases hk with rfl|rfl<;>simp[ZX,Ab,tc]),if_pos (by unfold Vp;grind),if_pos (show([]:List GValue).all Ds=true from rfl),yC (by omega)]
  simp_all[zt]
 rw[he,show(VD k c).length-1=2 from rfl,(hn 2 (by simp[VD])).q];unfold FO Up IA;rw[show Aa (VD k c) 2=⟨21,0⟩from rfl,show Oc (VD k c) 2=2 from rfl,if_neg (by decide)];have e:Sk (VD k c) 2 0=0:=by rcases hk with rfl|rfl<;>kernel_rfl
 have f:Sk (VD k c) 2 1=1:=by rcases hk with rfl|rfl<;>kernel_rfl
 simp only[ff,e,f,a,b,Lac,Kae,List.nil_append,Tab,List.map_cons,Tac,List.cons_append];rw[if_neg (by simp)];dsimp only;rw[Un (by simp),if_pos (by grind[ZX,Ab]),if_pos (by grind[Vp]),if_pos (by simp_all),LF (by decide),if_pos ⟨⟨rfl,rfl⟩,λ_=>by grind⟩];rfl
theorem F5{k c x:Int}(hk:k=2\/k=3) {env:GEnv}(hi:env.Inputs=[⟨k,0,x⟩]) (hx:Ds ⟨k,0,x⟩=true) (hc:Ds ⟨k,0,c⟩=true):gT (VD k c) env=decide (x<c):=by
 unfold gT;rw[if_neg (by simp[VD]),DZ hk hi hx hc]
 grind[trV]
def Nt(k:Int) (rs:List GRule):GScope:=GScope.mk (Raa #[104,111,117,115,101]) (-1) [GField.mk (Raa #[97]) (GType.mk k 0)] [GField.mk (Raa #[100]) (GType.mk 3 0)] rs
theorem cyc_T{k:Int}{rs:List GRule}(h:(jC (Nt k rs) 0 1).contains 0=false):ff (pE (Nt k rs)) (Nt k rs).Defs.length=none:=Hb.2 λi hi=>by
 have:i=0:=by grind[Nt]
 subst this;unfold pE;rw[if_neg]
 grind[Nt,oF]
theorem C4{k:Int}{rs:List GRule}(h:(jC (Nt k rs) 0 1).contains 0=false) (hs:dh (zk k rs) 0 (Nt k rs)=(0,0)):Nl (zk k rs)=⟨0,0,0,0⟩:=by
 unfold Nl;simp only[show(zk k rs).Enums.length=0 from rfl,show(zk k rs).Tables.length=0 from rfl,show(zk k rs).Scopes.length=1 from rfl,ff];rw[show(zk k rs).Scopes[0]?=some (Nt k rs)from rfl]
 simp_all
theorem Q8{k:Int}{rs:List GRule}{date:Int}{r:List Int}(hv:Nl (zk k rs)=⟨0,0,0,0⟩) (hd:0<=date/\date<=109572) (hf:((Al (Nt k rs) 0 date).any λg=>!Fm g (Jo (zk k rs) (Nt k rs)))=false)
 (a:Ci (zk k rs) (Al (Nt k rs) 0 date) (Nt k rs) 1=[r]) (hr:¬4096<Nx [r]):tn (zk k rs) 0 0 date=([r],0):=by
 unfold tn;rw[if_neg (by simp_all),if_neg (by simp[zk]),show(zk k rs).Scopes[(0:Int).toNat]?=some (Nt k rs)from rfl];dsimp only;rw[if_neg (by simp[Nt]),if_neg (by omega),if_neg (by simp_all),show(Nt k rs).Inputs.length=1 from rfl,a,if_neg hr]
def fb:List GRule:=[sx (Raa #[98,97,115,101]) (-1) (VD 3 5) 1,sx (Raa #[109,111,114,101]) 0 (VD 3 9) 1]
theorem W4:(jC (Nt 3 fb) 0 1).contains 0=false:=by kernel_rfl
theorem sc25:dh (zk 3 fb) 0 (Nt 3 fb)=(0,0):=by
 unfold dh;rw[cyc_T W4];rfl
theorem O8:Ci (zk 3 fb) (Al (Nt 3 fb) 0 100) (Nt 3 fb) 1=[[-1000000000000000,5,6,9,10]]:=by kernel_rfl
theorem out_T{k:Int}{rs:List GRule}{date:Int}{env:GEnv}:Fq (zk k rs) (Nt k rs) 0 date env=RE (xa (Nt k rs) 0 date).2.1 (xa (Nt k rs) 0 date).2.2 (Hz (Nt k rs) (xa (Nt k rs) 0 date).1 env):=rfl
theorem K5{x:Int}{env:GEnv}(hi:env.Inputs=[⟨3,0,x⟩]) (hx:Ds ⟨3,0,x⟩=true):Fq (zk 3 fb) (Nt 3 fb) 0 100 env=RE [-1,0] [0,0] [decide (x<5),decide (x<9)]:=by
 rw[out_T,show xa (Nt 3 fb) 0 100=([0,1],[-1,0],[0,0]) by kernel_rfl];unfold Hz;show RE [-1,0] [0,0] [gT (VD 3 5) env,gT (VD 3 9) env]=_;rw[F5 (.inr rfl) hi hx (by decide),F5 (.inr rfl) hi hx (by decide)]
theorem ok_T{k:Int}{rs:List GRule}(h:rs.length<=1048576/\∀r∈rs,r.Guard.length<=1048576/\r.Value.length<=1048576) (b:∀r∈rs,r.Name.size<=1048576/\r.Source.size<=1048576/\(∀n∈r.Guard,Xa n)/\∀n∈r.Value,Xa n):LawOk (zk k rs):=by
 have a:ScOk (Nt k rs):=⟨by simp[Nt],h.1,h.2⟩;refine⟨by simp[zk],by simp[zk],by simp[zk],by simp[zk],by simp[zk],λx hx=>?_⟩;have:x=Nt k rs:=oac.1 hx;subst this;exact⟨(show(5:Nat)<=1048576 by decide),a,by simp[Nt],by simp[Nt];decide,by simp[Nt];decide,b⟩
theorem B0:LawOk (zk 3 fb):=ok_T (by simp[fb,sx,VD]) (by simp[fb,sx,VD,Xa];decide)
theorem bB:tn (zk 3 fb) 0 0 100=([[-1000000000000000,5,6,9,10]],0):=Q8 (C4 W4 sc25) (by decide) (by kernel_rfl) O8 (by decide)
theorem P8{l:GLaw}{s s':GScope}{sc d date:Int}{g:List (List Int)}(ho:GridOk l s sc d date g) (h:l.Scopes[sc.toNat]?=some s'):GridOk l s' sc d date g:=by
 have:=ho.cs
 simp_all
theorem tG:GridOk (zk 3 fb) (Nt 3 fb) 0 0 100 [[-1000000000000000,5,6,9,10]]:=by
 obtain⟨s,ho⟩:=jQ B0 (sc:=0) (d:=0) (date:=100) (by rw[bB]);rw[bB]at ho;exact P8 ho rfl
theorem cell1{r c:List Int}(h:Fb [r] c):∃j:Int,c=[j]/\0<=j/\j<(r.length:Int):=by
 match c,h with
 |[j],h=>exact⟨j,rfl,h.1.1,h.1.2.1⟩
theorem U4{r:List Int}{j:Int}(a:0<=j) (b:j<(r.length:Int)) (h2:r.length<=1099511627776):Fb [r] [j]:=⟨⟨a,b,h2⟩,trivial⟩
theorem inp25{c:List Int}(h:Fb [[-1000000000000000,5,6,9,10]] c):∃x,(Sx (zk 3 fb) (Nt 3 fb) 100 [[-1000000000000000,5,6,9,10]] c).Inputs=[⟨3,0,x⟩]/\Ds ⟨3,0,x⟩=true:=by
 obtain⟨j,rfl,h0,a⟩:=cell1 h;simp only[sab,Xab]at a;rcases(by omega:j=0\/j=1\/j=2\/j=3\/j=4)with rfl|rfl|rfl|rfl|rfl<;>exact⟨_,rfl,by decide⟩
theorem sel25{x:Int}:RE [-1,0] [0,0] [decide (x<5),decide (x<9)]≠0:=by
 by_cases h:x<5
 .rw[decide_eq_true h,decide_eq_true (show x<9 by omega)];decide
 .rw[decide_eq_false h];by_cases h2:x<9<;>simp only[h2,decide_true,decide_false]<;>decide
theorem I5:¬Dv (zk 3 fb) (Nt 3 fb) 0 100 [[-1000000000000000,5,6,9,10]] 0:=λ⟨c,hc,ho⟩=>by
 obtain⟨x,hi,hx⟩:=inp25 hc
 simp_all[K5,sel25]
theorem YV:Fq (zk 3 fb) (Nt 3 fb) 0 100 (Sx (zk 3 fb) (Nt 3 fb) 100 [[-1000000000000000,5,6,9,10]] [0])=((1:Nat):Int):=by
 rw[K5 (x:=-1000000000000000) rfl (by decide)];decide
theorem A7:De (zk 3 fb) 0 0 100=some ([0],0):=by
 rw[pT B0 bB tG,show(xa (Nt 3 fb) 0 100).1=[0,1] by kernel_rfl];unfold Nz;have h0:pb (Dv (zk 3 fb) (Nt 3 fb) 0 100 [[-1000000000000000,5,6,9,10]] 0)=false:=Iac.2 λh=>I5 (TC.1 h);have h1:pb (Dv (zk 3 fb) (Nt 3 fb) 0 100 [[-1000000000000000,5,6,9,10]] 1)=true:=TC.2 ⟨[0],U4 (by decide) (by decide) (by decide),YV⟩
 grind[Lac]
theorem F4:Hc (zk 3 fb) 0 1 100=some ([⟨3,0,-1000000000000000⟩],true,0):=by
 have hl:1<(xa (Nt 3 fb) 0 100).1.length:=by rw[show(xa (Nt 3 fb) 0 100).1=[0,1] by kernel_rfl];decide
 have a:(xa (Nt 3 fb) 0 100).1[1]=1:=by simp only[show(xa (Nt 3 fb) 0 100).1=[0,1] by kernel_rfl];rfl
 rcases aJ B0 bB tG hl with⟨c,hc,-,e,h⟩|⟨h,-⟩
 .rw[a]at e;rw[e,h YV];rfl
 .exact absurd ⟨[0],U4 (by decide) (by decide) (by decide),YV⟩ h
theorem D4:Hc (zk 3 fb) 0 0 100=some ([],false,0):=by
 have hl:0<(xa (Nt 3 fb) 0 100).1.length:=by rw[show(xa (Nt 3 fb) 0 100).1=[0,1] by kernel_rfl];decide
 have hg:(xa (Nt 3 fb) 0 100).1[0]=0:=by simp only[show(xa (Nt 3 fb) 0 100).1=[0,1] by kernel_rfl];rfl
 rcases aJ B0 bB tG hl with⟨c,hc,ho,-⟩|⟨-,e⟩
 .exact absurd ⟨c,hc,ho⟩ I5
 simp_all
theorem nI:Uk=some true:=by
 unfold Uk Jt;simp only[Kaa];rw[show zk 3 [sx _ (-1) [GNode.mk 7 0,GNode.mk 3 5,GNode.mk 21 0] 1,sx _ 0 [GNode.mk 7 0,GNode.mk 3 9,GNode.mk 21 0] 1]=zk 3 fb from rfl,A7,F4,D4];simp only[Kaa,IH (l:=[0]) (by simp),if_true];unfold jv;rw[if_neg (by simp),Ul (s':=1) rfl,Ue (b:=()) rfl];rfl
end Go.Proofs.Dev
namespace Go.Tm
def Pq(l:List Int) (k:Nat):Int:=l.getD k 0
def swp(l:List Int) (i j:Nat):List Int:=(l.set i (Pq l j)).set j (Pq l i)
def Hp(l:List Int) (n:Nat):Prop:=∀k,0<k->k<n->Pq l ((k-1) / 2)<=Pq l k
def HpU(l:List Int) (j:Nat):Prop:=(∀k,0<k->k<l.length->k≠j->Pq l ((k-1) / 2)<=Pq l k)/\(∀k,0<j->0<k->k<l.length->(k-1) / 2=j->Pq l ((j-1) / 2)<=Pq l k)
def Z5(l:List Int) (n i:Nat):Prop:=(∀k,0<k->k<n->(k-1) / 2≠i->Pq l ((k-1) / 2)<=Pq l k)/\(∀k,0<i->0<k->k<n->(k-1) / 2=i->Pq l ((i-1) / 2)<=Pq l k)
theorem od{l:List Int}{k:Nat}(h:k<l.length):Pq l k=l[k]:=by grind[Pq]
theorem aC{l:List Int}{i j:Nat}:(swp l i j).length=l.length:=by simp[swp]
theorem Gm{l:List Int}{i j k:Nat}(hi:i<l.length) (hj:j<l.length):Pq (swp l i j) k=if k=j then Pq l i else if k=i then Pq l j else Pq l k:=by
 grind[swp,Pq]
theorem Ky{l:List Int}{i j:Nat}(hi:i<l.length) (hj:j<l.length):(swp l i j).Perm l:=by
 grind[swp,od]
theorem OX{l:List Int}{j:Nat}(h:HpU l j) (hj:j=0\/Pq l ((j-1) / 2)<=Pq l j):Hp l l.length:=by
 intro k a b;by_cases hk:k=j
 .grind
 .exact h.1 k a b hk
theorem up_go{l:List Int}{j:Nat}(h:HpU l j) (g:0<j) (hl:j<l.length) (hlt:Pq l j<Pq l ((j-1) / 2)):HpU (swp l ((j-1) / 2) j) ((j-1) / 2):=by
 have c:(j-1) / 2<l.length:=by omega
 refine⟨λk b a h2=>?_,λk b a h2 h3=>?_⟩
 .rw[aC]at a;rw[Gm c hl,Gm c hl];by_cases hk:k=j
  .omega
  .rw[if_neg hk,if_neg h2];by_cases d:(k-1) / 2=j
   .rw[if_pos d];exact h.2 k g b a d
   .rw[if_neg d];by_cases f:(k-1) / 2=(j-1) / 2
    .rw[if_pos f];have:=h.1 k b a hk
     grind
    .rw[if_neg f];exact h.1 k b a hk
 .rw[aC]at h2;rw[Gm c hl,Gm c hl];have e:Pq l (((j-1) / 2-1) / 2)<=Pq l ((j-1) / 2):=h.1 _ b c (by omega);rw[if_neg (by omega),if_neg (by omega)];by_cases hk:k=j
  .omega
  .rw[if_neg hk,if_neg (by omega)];have:=h.1 k a h2 hk
   grind
theorem raa{l:List Int}{x:Int}(h:Hp l l.length):HpU (l++[x]) l.length:=by
 refine⟨λk a b h2=>?_,λk a b h2 h3=>?_⟩
 .have hk:k<l.length:=by grind
  have e:∀q,q<l.length->Pq (l++[x]) q=Pq l q:=λq hq=>by grind[od]
  rw[e _ (by omega),e _ hk];exact h k a hk
 grind
def Cm(l:List Int) (n i j:Nat):Prop:=0<j/\j<n/\(j-1) / 2=i/\∀k,0<k->k<n->(k-1) / 2=i->Pq l j<=Pq l k
theorem cm_1{l:List Int}{n i:Nat}(a:2*i+1<n) (h:2*i+2<n->Pq l (2*i+1)<=Pq l (2*i+2)):Cm l n i (2*i+1):=by
 refine⟨by omega,a,by omega,λk h0 h2 h3=>?_⟩
 grind
theorem cm_2{l:List Int}{n i:Nat}(a:2*i+2<n) (h:Pq l (2*i+2)<Pq l (2*i+1)):Cm l n i (2*i+2):=by
 refine⟨by omega,a,by omega,λk h0 h2 h3=>?_⟩
 grind
theorem CR{l:List Int}{n i:Nat}(h:Z5 l n i) (hn:n<=2*i+1):Hp l n:=λk a b=>h.1 k a b (by omega)
theorem SF{l:List Int}{n i j:Nat}(h:Z5 l n i) (hc:Cm l n i j) (hle:Pq l i<=Pq l j):Hp l n:=by
 intro k a b;by_cases hk:(k-1) / 2=i
 .have:=hc.2.2.2 k a b hk
  grind
 .exact h.1 k a b hk
theorem mK{l:List Int}{n i j:Nat}(h:Z5 l n i) (hn:n<=l.length) (hc:Cm l n i j) (hlt:Pq l j<Pq l i):Z5 (swp l i j) n j:=by
 obtain⟨g,m,e,c3⟩:=hc;have hi:i<l.length:=by omega
 have b:j<l.length:=by omega
 refine⟨λk c d h2=>?_,λk c d h2 h3=>?_⟩
 .rw[Gm hi b,Gm hi b,if_neg h2];by_cases hk:k=j
  .omega
  .rw[if_neg hk];by_cases a:k=i
   .subst a;rw[if_neg (by omega),if_pos rfl];exact h.2 j c g m e
   .rw[if_neg a];by_cases f:(k-1) / 2=i
    .simp_all
    .rw[if_neg f];exact h.1 k c d f
 .rw[Gm hi b,Gm hi b,if_neg (by omega),if_pos e,if_neg (by omega),if_neg (by omega)];have:=h.1 k d h2 (by omega)
  simp_all
theorem pop_D{l:List Int}{n:Nat}(h:Hp l l.length) (hl:l.length=n+1):Z5 (swp l 0 n) n 0:=by
 refine⟨λk a h1 h2=>?_,λk a=>absurd a (by omega)⟩;rw[Gm (by omega) (by omega),Gm (by omega) (by omega),if_neg (by omega),if_neg h2,if_neg (by omega),if_neg (by omega)];exact h k a (by omega)
theorem R8{l:List Int}{n:Nat}(h:Hp l n):∀k,k<n->Pq l 0<=Pq l k:=by
 intro k
 induction k using Nat.strongRecOn with
 |ind k a=>
  intro hk;by_cases h0:k=0
  .simp_all
  .have h1:=a ((k-1) / 2) (by omega) (by omega);have h2:=h k (by omega) hk;omega
theorem oZ{l:List Int}{n:Nat}(h:Hp l n) (hn:n<=l.length):Hp (l.take n) (l.take n).length:=by
 intro k a b;rw[List.length_take]at b;have e:∀q,q<n->Pq (l.take n) q=Pq l q:=λq hq=>by
  grind[od]
 rw[e _ (by omega),e _ (by omega)];exact h k a (by omega)
end Go.Tm
namespace Go.Proofs.Dev
open Go Go.Tm
structure GOk (g:List (List Int)):Prop where
 len:g.length<=1048576
 inr:∀l∈g,∀e∈l,0<=e/\e<g.length
 nd:∀l∈g,l.Nodup
theorem SC:∀{n:Nat}{l:List Int},l.Nodup->(∀x∈l,0<=x/\x<(n:Int))->l.length<=n
 |0,l,_,h=>by
  cases l with
  |nil=>simp
  |cons x l=>grind[tae]
 |n+1,l,hd,h=>by
  by_cases hm:(n:Int)∈l
  .have h1:=SC (n:=n) (l:=l.erase n) (hd.erase _) (λx hx=>by
    grind)
   simp_all
  .have:=SC (n:=n) (l:=l) hd (λx hx=>by
    grind)
   omega
def Vg(g:List (List Int)) (i d:Nat):List Int:=((Zaa i).filter λe=>(g.getD e []).contains (d:Int)).map λ(e:Nat)=>(e:Int)
def br(g:List (List Int)) (i j d:Nat):List Int:=Vg g i d++if((g.getD i []).take j).contains (d:Int)then [(i:Int)]else []
theorem zR{g:List (List Int)}{d:Nat}:Vg g 0 d=[]:=rfl
theorem AR{g:List (List Int)}{i d:Nat}:br g i 0 d=Vg g i d:=by simp[br]
theorem yR{g:List (List Int)}{i d:Nat}:Vg g (i+1) d=br g i (g.getD i []).length d:=by
 grind[Vg,br,Lac]
theorem nJ{g:List (List Int)}{i j d:Nat}(a:j<(g.getD i []).length) (hnd:(g.getD i []).Nodup):br g i (j+1) d=if(g.getD i [])[j]=(d:Int)then br g i j d++[(i:Int)]else br g i j d:=by
 unfold br;rw[tab,Maa a,Vab];by_cases h:(g.getD i [])[j]=(d:Int)
 .rw[if_pos h];have h1:((g.getD i []).take j++[(g.getD i [])[j]]).contains (d:Int)=true:=Cab.2 (Jab.2 (.inr (by simp_all)));have h2:((g.getD i []).take j).contains (d:Int)=false:=by
   rw[←Yac,Cab]
   grind[bab,zac]
  simp_all
 grind
theorem QF{g:List (List Int)}{i d:Nat}:(Vg g i d).length<=i:=by
 grind[Vg]
theorem DU{g:List (List Int)}{i j d:Nat}:(br g i j d).length<=i+1:=by
 grind[br,QF]
def dP(g:List (List Int)) (i:Nat):List Int:=((Zaa i).filter λe=>(g.getD e []).isEmpty).map λ(e:Nat)=>(e:Int)
theorem mN{g:List (List Int)}{i:Nat}:dP g (i+1)=if(g.getD i [])=[]then dP g i++[(i:Int)]else dP g i:=by
 grind[dP,Lac]
theorem B1{g:List (List Int)}{i:Nat}:(dP g i).length<=i:=by
 grind[dP]
def iB(g:List (List Int)) (i:Nat):List Int:=(Zaa g.length).map λe=>if e<i then((g.getD e []).length:Int)else 0
theorem jS{g:List (List Int)}:iB g 0=Oaa g.length 0:=by
 unfold iB;apply Sab<;>simp
theorem iS{g:List (List Int)}{i:Nat}(hi:i<g.length):(iB g i).set i ((g.getD i []).length:Int)=iB g (i+1):=by
 unfold iB;apply Sab
 all_goals grind
def oE(g:List (List Int)) (out:List Int) (e:Nat):Int:=(((g.getD e []).filter λd=>!out.contains d).length:Int)
def SM(g:List (List Int)) (out:List Int):List Int:=(Zaa g.length).map λe=>oE g out e
def IQ(g:List (List Int)) (out:List Int):List Int:=((Zaa g.length).filter (nN g out)).map λ(d:Nat)=>(d:Int)
structure J2 (g:List (List Int)) (out l:List Int):Prop where
 nd:out.Nodup
 inr:∀x∈out,0<=x/\x<(g.length:Int)
 iU:∀d:Nat,(d:Int)∈out->∀e∈g.getD d [],e∈out
 perm:l.Perm (IQ g out)
 ord:Xu g (g.length-out.length) out=xv g
theorem mF{g:List (List Int)}{out:List Int}{x:Int}:x∈IQ g out↔∃d:Nat,x=d/\d<g.length/\(d:Int)∉out/\∀e∈g.getD d [],e∈out:=by
 unfold IQ;rw[iac];constructor
 .rintro⟨d,hd,rfl⟩;rw[bac,Gac]at hd;obtain⟨a,h2⟩:=hd;unfold nN at h2
  grind
 .rintro⟨d,rfl,a,h2,h3⟩;refine⟨d,?_,rfl⟩
  simp_all[nN]
theorem HW{g:List (List Int)}{out:List Int}:(IQ g out).Nodup:=by
 grind[IQ,yae,Xad]
theorem j2_0{g:List (List Int)}{l:List Int}(h:l.Perm (dP g g.length)):J2 g [] l:=by
 refine⟨List.nodup_nil,λx h=>(Uad h).elim,λd h=>(Uad h).elim,?_,by rw[Xab,ead];rfl⟩;have:dP g g.length=IQ g []:=by
  unfold dP IQ;congr 1;refine zae λd _=>?_;unfold nN;cases hq:g.getD d []<;>simp
 simp_all
theorem l9{g:List (List Int)}:iB g g.length=SM g []:=by
 unfold iB SM;refine Kac λe he=>?_;rw[if_pos (Gac.1 he)]
 grind[oE,List.filter_eq_self]
theorem p9{g:List (List Int)}{out:List Int}(h:J2 g out []):xv g=if out.length<g.length then([],9)else(out,0):=by
 rw[←h.ord];have hl:out.length<=g.length:=SC h.nd h.inr;have he:IQ g out=[]:=List.Perm.eq_nil (h.perm.symm);split
 .rename_i hlt;obtain⟨k,hk⟩:∃k,g.length-out.length=k+1:=⟨g.length-out.length-1,by omega⟩;rw[hk];unfold Xu;have hf:(Zaa g.length).find? (nN g out)=none:=by
   rw[List.find?_eq_none];intro d hd hr;have:(d:Int)∈IQ g out:=by
    unfold IQ
    grind
   simp_all
  rw[hf]
 .rw[show g.length-out.length=0 by omega];rfl
def vx(g:List (List Int)) (out:List Int) (d k:Nat):List Int:=(Zaa g.length).map λe=>oE g out e-if((Vg g g.length d).take k).contains (e:Int)then 1 else 0
def uB(g:List (List Int)) (out:List Int) (d k:Nat):List Int:=((Vg g g.length d).take k).filter λe=>oE g out e.toNat==1
theorem ny{g:List (List Int)}{d:Nat}{x:Int}:x∈Vg g g.length d↔∃e:Nat,x=e/\e<g.length/\(d:Int)∈g.getD e []:=by
 unfold Vg
 grind
theorem UP{g:List (List Int)}{d:Nat}:(Vg g g.length d).Nodup:=by
 grind[Vg,yae,Xad]
theorem Z8{g:List (List Int)}{out:List Int}{d:Nat}:vx g out d 0=SM g out:=by
 grind[vx,SM]
theorem uX{l:List Int}(hnd:l.Nodup) {k:Nat}(hk:k<l.length):(l.take k).contains l[k]=false:=by
 rw[←Yac,Cab]
 grind[bab,zac]
theorem qV{g:List (List Int)}{out:List Int}{d k e:Nat}(hk:k<(Vg g g.length d).length) (he:(Vg g g.length d)[k]=(e:Int)) (hl:e<g.length):(vx g out d k)[e]?=some (oE g out e):=by
 grind[vx,uX,UP]
theorem xJ{g:List (List Int)}{out:List Int}{d k e:Nat}(hk:k<(Vg g g.length d).length) (he:(Vg g g.length d)[k]=(e:Int)):(vx g out d k).set e (oE g out e-1)=vx g out d (k+1):=by
 unfold vx;apply Sab
 .simp
 .intro q h1 h2;rw[List.getElem_set];simp only[List.getElem_map,List.getElem_range];rw[tab,Maa hk,Vab,he]
  grind
theorem aaa{g:List (List Int)}{out:List Int}{d:Nat}:uB g out d 0=[]:=rfl
theorem DJ{g:List (List Int)}{out:List Int}{d k e:Nat}(hk:k<(Vg g g.length d).length) (he:(Vg g g.length d)[k]=(e:Int)):uB g out d (k+1)=if oE g out e=1 then uB g out d k++[(e:Int)]else uB g out d k:=by
 unfold uB;rw[tab,Maa hk,Vab,he,aac]
 grind
theorem MV{g:List (List Int)}{out:List Int}{d k:Nat}:(uB g out d k).length<=g.length:=by
 grind[uB,QF]
theorem N8{g:List (List Int)}{e:Nat}(h:e<g.length):g.getD e []∈g:=by
 simp_all
theorem GF{g:List (List Int)}(b:GOk g) {out:List Int}{d e:Nat}(he:e<g.length) (hd:(d:Int)∉out):oE g (out++[(d:Int)]) e=oE g out e-if(Vg g g.length d).contains (e:Int)then 1 else 0:=by
 unfold oE;have hn:=b.nd _ (N8 he);have hc:(Vg g g.length d).contains (e:Int)=(g.getD e []).contains (d:Int):=by
  rw[aae,Cab,Cab,ny]
  grind
 rw[hc];generalize g.getD e []=l at hn
 induction l with
 |nil=>rfl
 |cons a l ih=>
  grind
theorem jU{g:List (List Int)}{out:List Int}{e:Nat}(h:∀q∈g.getD e [],q∈out):oE g out e=0:=by
 grind[oE,vad]
theorem qR{g:List (List Int)}{out:List Int}{e:Nat}(h:oE g out e=0):∀q∈g.getD e [],q∈out:=by
 grind[oE,gab,vad]
theorem q9{g:List (List Int)}(A:GOk g) {x:Int}{l l' out:List Int}(h:J2 g out l) (C:(x::l').Perm l) (hmin:∀y∈l',x<=y) :
 ∃d:Nat,x=d/\d<g.length/\vx g out d (Vg g g.length d).length=SM g (out++[x])/\out.length<g.length/\∀n,n.Perm (l'++uB g out d (Vg g g.length d).length)->J2 g (out++[x]) n:=by
 have s:=C.trans h.perm;obtain⟨d,rfl,u,m,hde⟩:=mF.1 (s.mem_iff.1 (tae ..));have i:(out++[(d:Int)]).Nodup:=by
  rw[Aae];refine⟨h.nd,by simp,λa ha b hb=>?_⟩
  grind
 have f:∀x∈out++[(d:Int)],0<=x/\x<(g.length:Int):=λx hx=>by
  rcases Jab.1 hx with c|c
  .exact h.inr x c
  simp_all
 have r:out.length<g.length:=by
  have:=SC i f
  grind
 have w:(d:Int)∉l'/\l'.Nodup:=List.nodup_cons.1 ((s.nodup_iff).2 HW);refine⟨d,rfl,u,?_,r,λn p=>⟨i,f,?_,?_,?_⟩⟩
 .simp_all[vx,SM,GF]
 .intro q hq e he;rcases Jab.1 hq with c|c
  .exact iae _ (h.iU q c e he)
  grind
 .refine p.trans ?_;have v:(uB g out d (Vg g g.length d).length).Nodup:=by
   grind[uB,UP]
  have j:∀y,y∈uB g out d (Vg g g.length d).length↔∃e:Nat,y=e/\e<g.length/\(d:Int)∈g.getD e []/\oE g out e=1:=by
   intro y;unfold uB;rw[List.take_length,bac,ny]
   grind
  have D:∀y,y∈l'↔y∈IQ g out/\y≠d:=by
   grind
  rw[List.perm_ext_iff_of_nodup ?_ HW]
  .intro y;rw[Jab,D,j,mF,mF];constructor
   .rintro(⟨⟨e,rfl,c,h2,o⟩,B⟩|⟨e,rfl,c,h2,o⟩)
    .grind
    .refine⟨e,rfl,c,λhm=>?_,?_⟩
     .rcases Jab.1 hm with t|t
      .exact m (h.iU e t d h2)
      grind
     .refine qR ?_;rw[GF A c m,if_pos (Cab.2 (ny.2 ⟨e,rfl,c,h2⟩)),o];rfl
   .rintro⟨e,rfl,c,h2,o⟩;have B:(e:Int)∉out:=λhm=>h2 (iae _ hm);have t:(e:Int)≠d:=λhm=>h2 (List.mem_append_right _ (oac.2 hm));by_cases z:(d:Int)∈g.getD e []
    .refine .inr ⟨e,rfl,c,z,?_⟩;have:=jU o;rw[GF A c m,if_pos (Cab.2 (ny.2 ⟨e,rfl,c,z⟩))]at this;omega
    grind
  .rw[Aae];refine⟨w.2,v,λa ha b hb e=>?_⟩;subst e;obtain⟨e,rfl,c,h2,o⟩:=(j a).1 hb
   grind[mF]
 .rw[←h.ord];obtain⟨k,hk⟩:∃k,g.length-out.length=k+1:=⟨g.length-out.length-1,by omega⟩;rw[hk,uab,Hab,show g.length-(out.length+1)=k by omega];have hf:(Zaa g.length).find? (nN g out)=some d:=by
   have hr:∀e:Nat,e<g.length->(nN g out e=true↔(e:Int)∈IQ g out):=by
    intro e he;unfold IQ
    grind
   rw[List.find?_range_eq_some]
   grind
  rw[Xu,hf]
noncomputable def lh(j:List Int):((List Bool)×(List Int)×Int)->Option (Ex ((List Bool)×(List Int)×Int) ((List Bool)×(List Int)) Unit):=λ(c,f,a)=>
 if a<(j.length:Int)then
  Laa (α:=((List Bool)×(List Int))) (
   (idx j a).bind λb=>
   (idx c b).bind λg=>
   if g=false then
    (put c b true).bind λh=>
    (app 8 f ([b])).bind λi=>
    some (h,i)
   else
   some (c,f)) λ(d,e)=>
  some (Ex.go (d,e,(ca .i64 (a+1))))
 else
 some (Ex.brk (c,f))
noncomputable def Af(t0:(List (List Int))):((List Bool)×(List Int))->Option (Ex ((List Bool)×(List Int)) (List Bool) Unit):=λ(s2,c)=>
 if 0<(c.length:Int)then
  (idx c 0).bind λd=>
  (TE c 1).bind λe=>
  (idx t0 d).bind λf=>
  (da (lh f) (s2,e,0)).bind λy=>match y with
  |.inr _=>none
  |.inl (a,b)=>
  some (Ex.go (a,b))
 else
 some (Ex.brk s2)
noncomputable def mh(c:List Bool):((List Int)×Int)->Option (Ex ((List Int)×Int) (List Int) Unit):=λ(b,a)=>
 if a<(c.length:Int)then
  Laa (α:=(List Int)) (
   (idx c a).bind λe=>
   if e=true then
    (app 8 b ([a])).bind λf=>
    some f
   else
   some b) λd=>
  some (Ex.go (d,(ca .i64 (a+1))))
 else
 some (Ex.brk b)
noncomputable def Er(t0:(List (List Int))) (t1:Int):Option (List Int):=
 (Az 1 false (t0.length:Int) (t0.length:Int)).bind λc=>
 (da (Af t0) (c,[t1])).bind λy=>match y with
 |.inr _=>none
 |.inl a=>
 (da (mh a) (([]:List Int),0)).bind λy=>match y with
 |.inr _=>none
 |.inl b=>
 some b
def visit(p:List Bool×List Int) (e:Int):List Bool×List Int:=if p.1[e.toNat]?=some true then p else(p.1.set e.toNat true,p.2++[e])
def Sn(s:List Bool) (b:Int):Prop:=s[b.toNat]?=some true
instance (s:List Bool) (b:Int):Decidable (Sn s b):=by unfold Sn;infer_instance
def cF(s:List Bool):Nat:=s.count false
theorem TT:∀{s:List Bool}{i:Nat},s[i]?=some false->cF (s.set i true)+1=cF s
 |[],i,h=>by simp at h
 |b::s,0,h=>by simp at h;subst h;simp[cF]
 |b::s,i+1,h=>by
  have:=TT (s:=s) (i:=i) (by simpa using h);unfold cF at this⊢;simp only[List.set_cons_succ,List.count_cons];omega
theorem cF_le(s:List Bool):cF s<=s.length:=List.count_le_length
structure Ok (n:Nat) (p:List Bool×List Int):Prop where
 len:p.1.length=n
 q:∀x∈p.2,0<=x/\x<n
 m:p.2.length+cF p.1<=n+1
theorem QN{n:Nat}{p:List Bool×List Int}{e:Int}(h:Ok n p) (f:0<=e) (g:e<n) :
 Ok n (visit p e)/\(visit p e).2.length+cF (visit p e).1=p.2.length+cF p.1/\(∀b,0<=b->(Sn (visit p e).1 b↔Sn p.1 b\/b=e))/\(∀x,x∈(visit p e).2↔x∈p.2\/(x=e/\¬Sn p.1 e)):=by
 unfold visit;split
 .rename_i c;refine⟨h,rfl,λb hb=>⟨.inl,λh=>?_⟩,λx=>⟨.inl,λh=>?_⟩⟩
  .rcases h with h|rfl
   .exact h
   .exact c
  .rcases h with h|⟨rfl,h⟩
   .exact h
   .exact(h c).elim
 .rename_i c;have d:e.toNat<p.1.length:=by rw[h.len];omega
  have hf:p.1[e.toNat]?=some false:=by
   rw[Maa d]at c⊢
   cases hb:p.1[e.toNat]with
   |true=>rw[hb]at c;exact(c rfl).elim
   |false=>rfl
  have hc:=TT hf;have hm:=h.m;refine⟨⟨by simp[h.len],λx hx=>?_,?_⟩,?_,λb hb=>?_,λx=>?_⟩
  .rcases Jab.1 hx with hx|hx
   .exact h.q x hx
   .rw[oac]at hx;subst hx;exact⟨f,g⟩
  .simp only[uab,Hab];omega
  .simp only[uab,Hab];omega
  .unfold Sn;rw[List.getElem?_set];by_cases a:e.toNat=b.toNat
   .rw[if_pos a,if_pos d];exact⟨λ_=>.inr (by omega),λ_=>rfl⟩
   .rw[if_neg a];exact⟨.inl,λh=>h.elim id λh=>(a (by rw[h])).elim⟩
  .rw[Jab,oac];exact⟨λh=>h.imp id λh=>⟨h,c⟩,λh=>h.imp id λh=>h.1⟩
theorem QJ{n:Nat}:∀{l:List Int}{p:List Bool×List Int},Ok n p->(∀e∈l,0<=e/\e<n)->
 Ok n (l.foldl visit p)/\(l.foldl visit p).2.length+cF (l.foldl visit p).1=p.2.length+cF p.1/\(∀b,0<=b->(Sn (l.foldl visit p).1 b↔Sn p.1 b\/b∈l))/\(∀x,x∈(l.foldl visit p).2↔x∈p.2\/(x∈l/\¬Sn p.1 x))
 |[],p,h,_=>by simp[h]
 |e::l,p,h,hl=>by
  obtain⟨o,q⟩:=hl e (by simp);obtain⟨g,a2,d,i⟩:=QN h o q;obtain⟨j,b2,k,m⟩:=QJ g (λx hx=>hl x (by simp[hx])) (l:=l);simp only[mac];refine⟨j,by omega,λb hb=>?_,λx=>?_⟩
  .rw[k b hb,d b hb,kac];constructor
   .rintro((h|h)|h)
    .exact .inl h
    .exact .inr (.inl h)
    .exact .inr (.inr h)
   .rintro(h|h|h)
    .exact .inl (.inl h)
    .exact .inl (.inr h)
    .exact .inr h
  .rw[m x,i x,kac];constructor
   .rintro((h|⟨rfl,h⟩)|⟨h,a⟩)
    .exact .inl h
    .exact .inr ⟨.inl rfl,h⟩
    .exact .inr ⟨.inr h,λf=>a ((d x (hl x (by simp[h])).1).2 (.inl f))⟩
   .rintro(h|⟨rfl|h,a⟩)
    .exact .inl (.inl h)
    .exact .inl (.inr ⟨rfl,a⟩)
    .by_cases c:x=e
     .subst c;exact .inl (.inr ⟨rfl,a⟩)
     .exact .inr ⟨h,λf=>((d x (hl x (by simp[h])).1).1 f).elim a c⟩
theorem SQ{i:Int}(h0:0<=i) (h1:i<9223372036854775807):ca .i64 (i+1)=i+1:=Bu ⟨by omega,by omega⟩
theorem M4{n:Nat}(hn:n<=1048576) {l:List Int}(hl:l.length<=1048576) (c:∀e∈l,0<=e/\e<n):∀(k:Nat) {p:List Bool×List Int}{i:Nat},l.length-i=k->Ok n p->
 da (lh l) (p.1,p.2,(i:Int))=some (.inl ((l.drop i).foldl visit p))
 |0,p,i,hk,d=>by
  rw[List.drop_eq_nil_of_le (by omega)];refine Ue ?_;unfold lh;simp only;rw[if_neg (by omega)];rfl
 |k+1,p,i,hk,d=>by
  have hi:i<l.length:=by omega
  obtain⟨f,r⟩:=c l[i] (Qaa hi);have a:l[i].toNat<p.1.length:=by rw[d.len];omega
  rw[List.drop_eq_getElem_cons hi,mac];have b:lh l (p.1,p.2,(i:Int))=some (.go ((visit p l[i]).1,(visit p l[i]).2,((i+1:Nat):Int))):=by
   unfold lh;simp only;rw[if_pos (by omega)];have g:idx l (i:Int)=some l[i]:=by simp[idx,hi]
   have h:idx p.1 l[i]=some p.1[l[i].toNat]:=by simp[idx,f,a]
   have j:ca .i64 ((i:Int)+1)=((i+1:Nat):Int):=by rw[SQ (by omega) (by omega)];omega
   rw[g,Kaa,h,Kaa,j];unfold visit;rw[Maa a]
   cases hb:p.1[l[i].toNat]with
   |true=>simp
   |false=>
    have o:put p.1 l[i] true=some (p.1.set l[i].toNat true):=by simp[put,f,a]
    have q:app 8 p.2 [l[i]]=some (p.2++[l[i]]):=by
     have hm:=d.m;unfold app;rw[if_pos];simp only[Hab];omega
    rw[if_pos rfl,o,Kaa,q];simp
  rw[Ul b];exact M4 hn hl c k (i:=i+1) (by omega) (QN d f r).1
def A6(g:List (List Int)) (a b:Int):Prop:=b=a\/ReachL g a b
structure Bfs (g:List (List Int)) (a:Int) (p:List Bool×List Int):Prop where
 ok:Ok g.length p
 sound:∀b,0<=b->Sn p.1 b->ReachL g a b
 qs:∀x∈p.2,A6 g a x
 done:∀b,0<=b->(b=a\/Sn p.1 b)->b∈p.2\/∀l,g[b.toNat]?=some l->∀c∈l,Sn p.1 c
theorem L7_eq{g:List (List Int)}{a:Int}(hn:g.length<=1048576) (z:∀l∈g,l.length<=1048576/\∀e∈l,0<=e/\e<g.length):∀(k:Nat) {p:List Bool×List Int},p.2.length+cF p.1=k->Bfs g a p->
 ∃s,da (Af g) p=some (.inl s)/\Bfs g a (s,[]):=by
 intro k
 induction k with
 |zero=>
  intro p hk f;obtain⟨s,q⟩:=p;have:q=[]:=gab (by dsimp only at hk;omega);subst this;exact⟨s,Ue (by simp[Af]),f⟩
 |succ k E=>
  intro p hk f;obtain⟨s,q⟩:=p
  cases q with
  |nil=>exact⟨s,Ue (by simp[Af]),f⟩
  |cons d q=>
   obtain⟨A,d1⟩:=f.ok.q d (by simp);have hd:d.toNat<g.length:=by omega
   obtain⟨gl,ge⟩:=z g[d.toNat] (Qaa hd);have o:Ok g.length (s,q):=⟨f.ok.len,λx hx=>f.ok.q x (by simp[hx]),by have:=f.ok.m;simp only[sab]at this⊢;omega⟩;obtain⟨F,G,t,w⟩:=QJ o ge (l:=g[d.toNat]);have j:Af g (s,d::q)=some (.go (g[d.toNat].foldl visit (s,q))):=by
    unfold Af;simp only;rw[if_pos (by simp)];have B:idx (d::q) 0=some d:=rfl;have C:TE (d::q) 1=some q:=by simp[TE]
    have D:idx g d=some g[d.toNat]:=by simp[idx,A,hd]
    have y:=M4 hn gl ge _ (p:=(s,q)) (i:=0) rfl o;simp only[List.drop_zero,Sad]at y;rw[B,Kaa,C,Kaa,D,Kaa,y];rfl
   rw[Ul j];have v:q.length+cF s=k:=by simp only[sab]at hk;omega
   refine E (by rw[G];exact v) ⟨F,λb hb r=>?_,λx hx=>?_,λb hb u=>?_⟩
   .rcases(t b hb).1 r with h|h
    .exact f.sound b hb h
    .rcases f.qs d (by simp)with rfl|hr
     .exact .one (Maa hd) h
     .exact .step hr (Maa hd) h
   .rcases(w x).1 hx with h|⟨h,-⟩
    .exact f.qs x (by simp[h])
    .right;rcases f.qs d (by simp)with rfl|hr
     .exact .one (Maa hd) h
     .exact .step hr (Maa hd) h
   .have up:∀c,0<=c->Sn s c->Sn (g[d.toNat].foldl visit (s,q)).1 c:=λc hc h=>(t c hc).2 (.inl h);by_cases n:b=d
    .subst n;right;intro l hl c hc;rw[Maa hd]at hl;injection hl with hl;subst hl;exact(t c (ge c hc).1).2 (.inr hc)
    .have key:(b=a\/Sn s b)\/(b∈g[d.toNat]/\¬Sn s b):=by
      rcases u with h|h
      .exact .inl (.inl h)
      .rcases(t b hb).1 h with h|h
       .exact .inl (.inr h)
       .by_cases r:Sn s b
        .exact .inl (.inr r)
        .exact .inr ⟨h,r⟩
     rcases key with h|h
     .rcases f.done b hb h with h|h
      .rcases kac.1 h with h|h
       .exact(n h).elim
       .exact .inl ((w b).2 (.inl h))
      .right;intro l hl c hc;have hm:l∈g:=qab hl;exact up c ((z l hm).2 c hc).1 (h l hl c hc)
     .exact .inl ((w b).2 (.inr h))
theorem N4{s:List Bool}(h:s.length<=1048576):∀(k:Nat) {i:Nat},s.length-i=k->i<=s.length->
 da (mh s) (((Zaa i).map λ(k:Nat)=>(k:Int)).filter (λb=>decide (Sn s b)),(i:Int))=some (.inl (((Zaa s.length).map λ(k:Nat)=>(k:Int)).filter λb=>decide (Sn s b)))
 |0,i,hk,hi=>by
  have:i=s.length:=by omega
  subst this;refine Ue ?_;unfold mh;simp
 |k+1,i,hk,hi=>by
  have a:i<s.length:=by omega
  have hlen:(((Zaa i).map λ(k:Nat)=>(k:Int)).filter (λb=>decide (Sn s b))).length<=i:=Nat.le_trans (List.length_filter_le _ _) (by simp);have d:mh s (((Zaa i).map λ(k:Nat)=>(k:Int)).filter (λb=>decide (Sn s b)),(i:Int))=some (.go (((Zaa (i+1)).map λ(k:Nat)=>(k:Int)).filter (λb=>decide (Sn s b)),((i+1:Nat):Int))):=by
   unfold mh;simp only;rw[if_pos (by omega)];have e:idx s (i:Int)=some s[i]:=by simp[idx,a]
   have f:ca .i64 ((i:Int)+1)=((i+1:Nat):Int):=by rw[SQ (by omega) (by omega)];omega
   rw[e,Kaa,f,Lac,Tab,aac]
   cases hb:s[i]with
   |true=>
    have c:Sn s ((i:Nat):Int):=by unfold Sn;simp[a,hb]
    have g:app 8 (((Zaa i).map λ(k:Nat)=>(k:Int)).filter (λb=>decide (Sn s b))) [(i:Int)]=some (((Zaa i).map λ(k:Nat)=>(k:Int)).filter (λb=>decide (Sn s b))++[(i:Int)]):=by
     unfold app;rw[if_pos];simp only[Hab];omega
    rw[if_pos rfl,g];simp[c]
   |false=>
    have c:¬Sn s ((i:Nat):Int):=by unfold Sn;simp[a,hb]
    rw[if_neg (by simp)];simp[c]
  rw[Ul d];exact N4 h k (i:=i+1) (by omega) (by omega)
theorem NS{t0:List (List Int)}{t1:Int}{r:List Int}(h:Ui t0 t1=some r):Er t0 t1=some r:=by
 unfold Ui at h;split at h
 .rename_i hc;obtain⟨hn,l,n,t⟩:=hc;obtain rfl:=oab h;unfold Er;have p:Az 1 false (t0.length:Int) (t0.length:Int)=some (Oaa t0.length false):=by
   unfold Az;rw[if_pos ⟨by omega,by omega,by omega,by simp;omega⟩];simp
  have hb:Bfs t0 t1 (Oaa t0.length false,[t1]):=by
   have f:∀b,¬Sn (Oaa t0.length false) b:=λb hb=>by
    unfold Sn at hb;rw[List.getElem?_replicate]at hb;split at hb<;>simp at hb
   refine⟨⟨by simp,λx hx=>?_,?_⟩,λb _ g=>(f b g).elim,λx hx=>?_,λb _ g=>?_⟩
   .rw[oac]at hx;subst hx;exact⟨n,t⟩
   .have:=cF_le (Oaa t0.length false);simp only[List.length_replicate,Hab]at this⊢;omega
   .rw[oac]at hx;exact .inl hx
   .rcases g with rfl|g
    .exact .inl (by simp)
    .exact(f b g).elim
  obtain⟨s,q,hb⟩:=L7_eq hn l _ rfl hb;have e:s.length=t0.length:=hb.ok.len;have m:=N4 (s:=s) (by omega) _ (i:=0) rfl (by omega);simp only[Kae,Tac,List.filter_nil,Sad]at m;rw[p,Kaa,q,Kaa];simp only;rw[m,Kaa];simp only;rw[e];unfold ZG;congr 1;apply zae;intro b j;obtain⟨k,-,rfl⟩:=iac.1 j;have c:∀b,ReachL t0 t1 b->0<=b/\Sn s b:=by
   intro b hr
   induction hr with
   |one h d=>
    have hm:=qab h;refine⟨((l _ hm).2 _ d).1,?_⟩;rcases hb.done t1 n (.inl rfl)with a|a
    .cases a
    .exact a _ h _ d
   |step _ hl hc o=>
    have hm:=qab hl;refine⟨((l _ hm).2 _ hc).1,?_⟩;rcases hb.done _ o.1 (.inr o.2)with a|a
    .cases a
    .exact a _ hl _ hc
  exact decide_eq_decide.2 ⟨λh=>hb.sound _ (by omega) h,λh=>(c _ h).2⟩
 .cases h
end Go.Proofs.Dev
