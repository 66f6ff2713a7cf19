/-
  The functions as plain partial functions, and plain lemmas about them: no condition.
-/
import Derived.Test.YtjjfnbpfgfopbaaGreatDoorPC
import Derived.Test.YtjjfnbpfgfopbaaGreatDoorPB
import Derived.Test.YtjjfnbpfgfopbaaGreatDoorPA
import Derived.KernelRfl
open Bool renaming and_eq_true->zaa,eq_iff_iff->oad,false_eq_true->Eaa,not_eq_true->lad,not_true->gad,true_eq_false->sab
open ByteArray renaming mk->yaa
open Classical renaming not_not->saa
open Decidable renaming byContradiction->Nad,not_not->Gac
open Int renaming eq_ofNat_of_zero_le->Eab,le_refl->aad,lt_or_gt_of_ne->Aae,mul_le_mul_of_nonneg_right->nac,natCast_zero->cae,reduceBEq->Baa,reduceEq->uaa
open List renaming all_eq_true->Xaa,contains_iff_mem->bab,drop_eq_getElem_cons->mab,drop_eq_nil_of_le->Aac,eq_nil_of_length_eq_zero->Laa,ext_getElem->fac,filter_append->Oab,filter_congr->Vad,filter_eq_nil_iff->Uac,foldl_cons->eab,getElem?_eq_getElem->naa,getElem_map->aac,getElem_mem->taa,getElem_of_mem->waa,getElem_range->Vac,length_append->Faa,length_cons->qaa,length_eq_zero_iff->aae,length_filter_le->cab,length_map->Waa,length_singleton->Fab,length_take->iab,map_congr_left->Hab,mem_append->Saa,mem_append_left->Fad,mem_cons->lab,mem_cons_self->rad,mem_filter->hac,mem_map->Paa,mem_of_getElem?->Lab,mem_range->Eac,mem_singleton->oab,nodup_append->wad,not_mem_nil->dae,pairwise_iff_getElem->Iab,pairwise_lt_range->vad,range->xaa,range_succ->ead,replicate->oaa,take_add_one->Raa,take_of_length_le->Bac
open List.Pairwise renaming imp->Uad
open Nat renaming le_trans->Qab,zero_le->qab
open Option renaming bind->laa,bind_some->kaa,getD_some->Nab,toList_some->Pab
open Option.some renaming inj->Iaa
set_option linter.all false
set_option maxRecDepth 10000
set_option maxHeartbeats 1000000
namespace Go.Proofs.Dev
open Go Go.Tm
variable {op b N d m rec:Int}{a:Prop}{x ms:GScope}{env:GEnv}{e:List GNode}{α:Type}{w:List Bool}{f:Nat->Bool}{step:List Bool×Int->Option (Ex (List Bool×Int) (List Bool) Unit)}{p:GDateRange}{k:Bool->Option α}{t:GType}{fs:List GField}{y:α}
theorem allow4{a b:GValue}(c:op=13\/op=14\/op=15\/op=16):Oa op a b=some (decide
 ((op=13/\b.Kind=2/\(a.Kind=2\/a.Kind=3))\/(op=14/\b.Kind=4/\(a.Kind=3\/a.Kind=4))\/(op=15/\((b.Kind=2/\(a.Kind=2\/a.Kind=3))\/(a.Kind=3/\b.Kind=3)))\/(op=16/\a.Kind=3/\b.Kind=3))):=by
 rcases c with rfl|rfl|rfl|rfl<;>simp only[Oa,uaa,if_true,if_false,kaa,Baa,Eaa,false_and,true_and,false_or,or_false]
 .grind
 .grind
 .by_cases g1:b.Kind=2
  .by_cases g2:a.Kind=2<;>by_cases g3:a.Kind=3<;>simp[g1,g2,g3]
  grind
 grind
theorem YV{x y:Int}(hx:-1000000000000000<=x/\x<=1000000000000000) (hy:-1000000000000000<=y/\y<=1000000000000000):bq x y=some (if(x*y).natAbs<=1000000000000000 then(x*y,0)else(0,3)):=by
 unfold bq;rw[IE (by omega) (by omega),IE (by omega) (by omega),JS (by omega) (by omega),kaa];dsimp only;have hn:x.natAbs*y.natAbs=(x*y).natAbs:=(Int.natAbs_mul x y).symm;have hb:(x*y).natAbs<=1000000000000000*1000000000000000:=by rw[←hn];exact Nat.mul_le_mul (by omega) (by omega)
 rw[hn];obtain⟨p,e⟩:∃p,(x*y).natAbs=p:=⟨_,rfl⟩;rw[e]at hb⊢;have hs:¬(x*y).natAbs=0->(¬(decide (x<0))=(decide (y<0))↔x*y<0):=by
  intro h0;have c:x≠0:=by grind
  have h2:y≠0:=by grind
  rcases Aae c with a|a<;>rcases Aae h2 with b|b
  .grind
  .have:=Int.mul_neg_of_neg_of_pos a b
   grind
  .have:=Int.mul_neg_of_pos_of_neg a b
   grind
  grind
 by_cases d:p<=1000000000000000
 .rw[if_pos d];have c:p / 18446744073709551616=0:=by omega
  have h2:p % 18446744073709551616=p:=by omega
  rw[c,h2,if_pos (by rfl),kaa,if_neg (by grind),wid (n:=(p:Int)) (by omega) (by omega),wid (by omega) (by omega)]
  grind
 grind
theorem RB{a b:GValue}(f:op=13\/op=14\/op=15\/op=16) (ha:Nc a) (hb:Nc b):Au (uh ⟨op,N⟩ [a,b] env):=by
 have h1:=ha.range;have h2:=hb.range;have c:oa ⟨op,N⟩ [a,b] env=_:=(NJ (by omega)).trans (allow4 f);have d:Ba ⟨op,N⟩ [a,b] env=yg ⟨op,N⟩ a b:=by
  rw[pC (by omega)];rcases f with rfl|rfl|rfl|rfl<;>simp only[Vb,uaa,Baa,if_true,if_false,Eaa,kaa,BI]
 rcases f with rfl|rfl|rfl|rfl
 .simp only[uaa,true_and,false_and,or_false]at c;have hq:yg ⟨13,N⟩ a b=some (⟨a.Kind,0,(if(a.N*b.N).natAbs<=1000000000000000 then(a.N*b.N,(0:Int))else(0,3)).1⟩,(if(a.N*b.N).natAbs<=1000000000000000 then(a.N*b.N,(0:Int))else(0,3)).2):=by
   simp_all[yg,YV]
  grind[Au.ite]
 .simp only[uaa,true_and,false_and,or_false,false_or]at c;by_cases hc:b.Kind=4/\(a.Kind=3\/a.Kind=4)
  .rw[decide_eq_true hc]at c;rcases hc with⟨c1,c2|c2⟩
   .refine Ej (v:=⟨a.Kind,0,(mdS a.N b.N 1000000 N).1⟩) (e:=(mdS a.N b.N 1000000 N).2) c (d.trans ?_)
    simp_all[yg,OK]
   .refine Ej (v:=⟨a.Kind,0,(mulS a.N b.N N).1⟩) (e:=(mulS a.N b.N N).2) c (d.trans ?_)
    simp_all[yg,sQ]
  grind[tt]
 .simp only[uaa,true_and,false_and,or_false,false_or]at c;by_cases hc:(b.Kind=2/\(a.Kind=2\/a.Kind=3))\/(a.Kind=3/\b.Kind=3)
  .rw[decide_eq_true hc]at c;rcases hc with⟨c1,c2⟩|⟨c1,c2⟩
   .refine Ej (v:=⟨a.Kind,0,(JR a.N b.N N).1⟩) (e:=(JR a.N b.N N).2) c (d.trans ?_)
    simp_all[yg,rk]
   .refine Ej (v:=⟨4,0,(frS a.N b.N N).1⟩) (e:=(frS a.N b.N N).2) c (d.trans ?_)
    simp_all[yg,UC]
  grind[tt]
 .simp only[uaa,true_and,false_and,or_false,false_or]at c;refine Au.ite (v:=⟨a.Kind,0,(rtS a.N b.N N).1⟩) (e:=(rtS a.N b.N N).2) c λhc=>d.trans ?_
  simp_all[yg,nE]
theorem KV(hop:36<=op/\op<=39) (t:GType):Yf op t=some (decide (t.Enum=0/\((op=36/\(t.Kind=2\/t.Kind=3))\/(op=39/\2<=t.Kind/\t.Kind<=5)\/(op≠36/\op≠39/\t.Kind=1)))):=by
 unfold Yf;simp only[pS,Ei];by_cases hE:t.Enum=0
 case neg=>grind
 have hk:(2<=t.Kind/\t.Kind<=5)↔((2<=t.Kind/\t.Kind<=4)\/t.Kind=5):=by omega
 have:op=36\/op=37\/op=38\/op=39:=by omega
 rcases this with rfl|rfl|rfl|rfl
 all_goals grind
theorem nB{σ β ρ:Type}{s:σ->Option (Ex σ β ρ)}(I:σ->Prop) (a:σ->Nat) (QB:β->Prop) (QR:ρ->Prop)
 (h:∀x,I x->(∃d,s x=some (.go d)/\I d/\a d<a x)\/(∃b,s x=some (.brk b)/\QB b)\/∃b,s x=some (.ret b)/\QR b)
 {x:σ} (hi:I x):(∃b,ea s x=some (.inl b)/\QB b)\/∃b,ea s x=some (.inr b)/\QR b:=by
 have:=G0 (s1:=s) (s2:=s) (λx y=>x=y/\I x) a (λb c=>b=c/\QB b) (λb c=>b=c/\QR b) (by
  grind) (a x) x x (Nat.le_refl _) ⟨rfl,hi⟩
 grind
theorem IW(he:EnvOk env) (g:36<=op/\op<=39) (hf:VA ⟨op,N⟩ env=true):Au (uh ⟨op,N⟩ [] env):=by
 have a:0<=N/\N<(env.MemberTypes.length:Int):=by
  grind[VA]
 have hi:idx env.MemberTypes N=some (env.MemberTypes[N.toNat]'(by omega)):=Zn a.1 a.2;generalize env.MemberTypes[N.toNat]'(by omega)=t at hi;have hal:oa ⟨op,N⟩ [] env=Yf op t:=by
  unfold oa
  grind
 have hcm:Ba ⟨op,N⟩ [] env=Eh ⟨op,N⟩ env:=by
  unfold Ba;dsimp only;have w:(op==5)=false:=by grind
  rw[if_neg (by omega),if_neg (by omega),if_neg (by omega),if_neg (by omega),w,kaa,if_neg (by simp),if_neg (by omega),if_neg (by omega),if_neg (by omega),if_neg (by omega),if_neg (by omega),mem4,decide_eq_true g,if_pos rfl,BI]
 have hov:∃p,Eh ⟨op,N⟩ env=some p:=by
  unfold Eh;dsimp only;rw[hi,kaa];obtain⟨j,hj⟩:∃j,(if op=37 then some (1:Int)else some 0)=some j:=by split<;>exact⟨_,rfl⟩
  obtain⟨b,hb⟩:∃b,(if op=39 then some ((env.Members.length:Int)==0)else some false)=some b:=by split<;>exact⟨_,rfl⟩
  rw[hj,kaa,hb,kaa]
  cases b with
  |true=>simp
  |false=>
   rw[if_neg (by simp)];have f:=nB (s:=Lj ⟨op,N⟩ env t) (λx=>0<=x.2.2.2/\x.2.2.2<=(env.Members.length:Int)) (λx=>(env.Members.length-x.2.2.2).toNat) (λ_=>True) (λ_=>True) (by
    rintro⟨C,D,k,d⟩ ⟨g1,g2⟩;dsimp only at g1 g2;unfold Lj;dsimp only;by_cases c:d<(env.Members.length:Int)
    case neg=>rw[if_neg c];simp
    rw[if_pos c,Zn g1 c];simp only[kaa];generalize env.Members[d.toNat]'(by omega)=l;by_cases hN:(l.length:Int)<=N
    .rw[if_neg (by omega)];simp
    rw[if_pos hN,Zn a.1 (by omega)];simp only[kaa,Xx,jd];generalize l[N.toNat]'(by omega)=v;have hgo:∀m n o:Int,∃e,(some (Ex.go (m,n,o,aa .i64 (d+1))):Option (Ex (Int×Int×Int×Int) (Int×Int×Int) (GValue×Int)))=some (.go e)/\(0<=e.2.2.2/\e.2.2.2<=(env.Members.length:Int))/\(env.Members.length-e.2.2.2).toNat<(env.Members.length-d).toNat:=by
     intro m n o;have:=he.mem;rw[wid (by omega) (by omega)]
     grind
    by_cases hv0:v.Kind=0
    .simp_all
    have h:(v.Kind==0)=false:=by simp[hv0]
    simp only[h,Eaa,if_false];by_cases y:(vA v&&(decide (v.Kind=t.Kind)&&decide (v.Enum=t.Enum)))=true
    case neg=>
     simp_all
    rw[y];simp only[sab,if_false];by_cases i:op=36
    .simp only[i,if_true];cases vA ⟨C,D,aa .i64 (k+v.N)⟩
     all_goals simp_all
    simp only[i,if_false];by_cases z:op=37
    .simp_all
    simp only[z,if_false];by_cases A:op=38
    .simp_all
    have B:op=39:=by omega
    simp only[A,B,if_false,if_true];obtain⟨b,hb⟩:∃b,(if¬d=0 then some (decide (k<v.N))else some true)=some b:=by grind
    rw[hb,kaa];cases b
    all_goals simp_all) (x:=(t.Kind,t.Enum,j,0)) ⟨by simp,by simp⟩
   rcases f with⟨⟨q,r,b3⟩,u,-⟩|⟨⟨q,r⟩,u,-⟩
   all_goals simp_all
 grind[KV,Au.ite]
theorem z7{n:GNode}{args:List GValue}(he:EnvOk env) (hN:Kd n) (hl:args.length<=3):Au (zj n args env):=by
 refine ML hl λd h2 h3 h4 h5=>?_;obtain⟨op,N⟩:=n;dsimp only at d h2;have two:(11<=op/\op<=24)\/(27<=op/\op<=30)->∃a b,args=[a,b]:=by
  intro h;have:args.length=2:=by grind[Xe]
  match args,this with
  |[a,b],_=>simp
 have one:op=10\/op=25\/(31<=op/\op<=34)->∃a,args=[a]:=by
  intro h;have:args.length=1:=by grind[Xe]
  match args,this with
  |[a],_=>simp
 have zero:op<=9\/35<=op->args=[]:=by
  grind[Xe,aae]
 rcases GG d with h|h|h|h|h|h|h|h|h|h|h|h|h|h|h|h|h|h|h|h|h|h|h|h|h|h|h|h|h|h|h|h|h|h|h|h|h|h|h<;>subst h
 .grind[jw]
 .grind[jw]
 .grind[jw]
 .grind[jw]
 .grind[jw]
 .grind[tcore_6]
 .grind[tcore_7]
 .grind[tcore_8]
 .grind[tcore_9]
 .obtain⟨a,rfl⟩:=one (by omega);grind[G5]
 .obtain⟨a,b,rfl⟩:=two (by omega);grind[aO]
 .obtain⟨a,b,rfl⟩:=two (by omega);grind[aO]
 .obtain⟨a,b,rfl⟩:=two (by omega);grind[RB]
 .obtain⟨a,b,rfl⟩:=two (by omega);grind[RB]
 .obtain⟨a,b,rfl⟩:=two (by omega);grind[RB]
 .obtain⟨a,b,rfl⟩:=two (by omega);grind[RB]
 .obtain⟨a,b,rfl⟩:=two (by omega);grind[cO]
 .obtain⟨a,b,rfl⟩:=two (by omega);grind[cO]
 .obtain⟨a,b,rfl⟩:=two (by omega);grind[dO]
 .obtain⟨a,b,rfl⟩:=two (by omega);grind[dO]
 .obtain⟨a,b,rfl⟩:=two (by omega);grind[fO]
 .obtain⟨a,b,rfl⟩:=two (by omega);grind[fO]
 .obtain⟨a,b,rfl⟩:=two (by omega);grind[gO]
 .obtain⟨a,b,rfl⟩:=two (by omega);grind[gO]
 .obtain⟨a,rfl⟩:=one (by omega);grind[H5]
 .have:args.length=3:=by grind[Xe]
  match args,this with
  |[a,b,c],_=>grind[I5]
 .obtain⟨a,b,rfl⟩:=two (by omega);grind[J5]
 .obtain⟨a,b,rfl⟩:=two (by omega);grind[K5]
 .obtain⟨a,b,rfl⟩:=two (by omega);grind[iO]
 .obtain⟨a,b,rfl⟩:=two (by omega);grind[iO]
 .obtain⟨a,rfl⟩:=one (by omega);grind[nH]
 .obtain⟨a,rfl⟩:=one (by omega);grind[nH]
 .obtain⟨a,rfl⟩:=one (by omega);grind[L5]
 .obtain⟨a,rfl⟩:=one (by omega);grind[M5]
 all_goals grind[N5,IW]
theorem O1(h:Wst e) (hN:∀n∈e,Kd n) (he:EnvOk env):∀i,i<e.length->NodeP e env i:=
 node_g h λi hi _=>z7 he (ndOk hN hi) (by grind[jC,YO])
theorem gR(hN:∀n∈e,Kd n) (he:EnvOk env) (h:Wst e):Ql e env=some (yE e env (e.length-1))/\((yE e env (e.length-1)).2=0->Nc (yE e env (e.length-1)).1):=
 Eval_g h (O1 h hN he _ (by have:=h.pos;omega))
theorem BX(hN:∀n∈e,Kd n) (he:EnvOk env):Au (Ql e env):=by
 by_cases a:(xq e).2.2=0
 .obtain⟨b,h2⟩:=gR hN he (nL a);exact⟨_,b,h2⟩
 .unfold Ql Xr;rw[br];simp only[kaa];rw[if_pos a];exact⟨_,rfl,λh=>absurd h a⟩
theorem Up{s:GScope}(hs:ScOk s):Ee s=some (wv (Np s)):=by
 grind[Ee,Qn]
theorem MD{g:List (List Int)}:∀(k:Nat) (out:List Int),(∀x∈out,0<=x/\x<(g.length:Int))->(out.length+k<=g.length)->(∀x∈(Uu g k out).1,0<=x/\x<(g.length:Int))/\(Uu g k out).1.length<=g.length
 |0,out,h,hl=>⟨h,hl⟩
 |k+1,out,h,hl=>by
  unfold Uu;split
  .rename_i d hf;have h2:=List.mem_of_find?_eq_some hf;rw[Eac]at h2;refine MD k _ (λx hx=>?_) (by grind)
   grind
  simp
theorem lQ(g:List (List Int)):(∀x∈(wv g).1,0<=x/\x<(g.length:Int))/\(wv g).1.length<=g.length:=MD g.length [] (λx hx=>by simp at hx) (by simp)
def MM(n:Nat) (x:Int):Prop:=x = -1\/x = -2\/(0<=x/\x<(n:Int))
theorem P1{t1:List Int}{out:Int->Int}{l:List Int}{n:Nat}(h:∀x∈l,MM n (out x)):MM n (FO t1 out l):=by
 unfold FO;have hs:=Jy (t1:=t1) (out:=out) (l:=l);split
 .exact .inl rfl
 .simp_all
 .exact .inr (.inl rfl)
theorem oc_in{t0 t1:List Int}{t2:List Bool}:∀(k:Nat) (i:Int),0<=i->i<(t0.length:Int)->MM t0.length (oc t0 t1 t2 k i)
 |0,i,_,_=>.inl rfl
 |k+1,i,a,b=>by
  unfold oc;split
  .exact .inr (.inr ⟨a,b⟩)
  .exact P1 λx hx=>by
    obtain⟨j,rfl,hj,-⟩:=EA hx;exact oc_in k _ (by omega) (by omega)
theorem selS_in(t0 t1:List Int) (t2:List Bool):MM t0.length (AW t0 t1 t2):=by
 unfold AW;split
 .exact P1 λx hx=>by
   obtain⟨j,rfl,hj,-⟩:=EA hx;exact oc_in t0.length _ (by omega) (by omega)
 .exact .inl rfl
structure ScE (s:GScope):Prop where
 ok:ScOk s
 n:∀r∈s.Rules,(∀n∈r.Guard,Kd n)/\(∀n∈r.Value,Kd n)
variable {s:GScope}
def qX:GEvalError:=⟨0,0,0,0⟩
def S7(v:GValue):Prop:=v=⟨0,0,0⟩\/Nc v
structure ScopeR (n:Nat) (v:List GValue) (r:List Int):Prop where
 vl:v.length=n
 rl:r.length=n
 vp:∀x∈v,S7 x
variable {n:Nat}{r:Int}{v:Int->GValue×Int}
theorem mem_set{l:List α}{i:Nat}{x:α}(h:y∈l.set i x):y=x\/y∈l:=by
 grind
theorem xY(u:ScE s) (he:EnvOk env) (m d:Int):∃p,Ug s env m d=some p/\(p.2.Code=0->MM s.Rules.length p.1):=by
 have hr:=u.ok.rules;unfold Ug;rw[Zt hr,kaa];obtain⟨hl1,f,e⟩:=zB (rules:=s.Rules) (q:=TV d env.Date) s.Rules.length;have hm:=RG (rules:=s.Rules) (q:=TV d env.Date) s.Rules.length;unfold CT;generalize (lp s.Rules (TV d env.Date) s.Rules.length).2.1=par at e⊢;generalize (lp s.Rules (TV d env.Date) s.Rules.length).1=L at f e hm⊢;generalize L.map (WG s)=k;dsimp only;rw[LC (by omega) (by omega),kaa];have g:=nB (s:=il s env m d (L,par,k))
  (λx=>∃i:Nat,i<=L.length/\x.2=(i:Int)/\x.1.length=L.length) (λx=>(L.length-x.2).toNat)
  (λx=>x.length=L.length) (λx=>x.2.Code≠0) (by
   rintro⟨a,a2⟩ ⟨i,i1,w,y⟩;dsimp only at w y;subst w;unfold il;dsimp only;by_cases hi:i<L.length
   case neg=>
    grind
   have hx:=hm _ (taa hi);rw[if_pos (by omega),Ea hi];simp only[kaa];generalize L[i]=x at hx⊢;rw[Zn hx.1 hx.2.1];simp only[kaa];have c:s.Rules[x.toNat]'(by omega)∈s.Rules:=taa _;generalize s.Rules[x.toNat]'(by omega)=r at c;have hN:=(u.n r c).1;have step:∀v:Bool,(laa (α:=((List Bool)⊕(Ex ((List Bool)×Int) (List Bool) (Int×GEvalError)))) ((idx a (i:Int)).bind λx13=>(put a (i:Int) v).bind λo=>some (Sum.inl o)) λz=>match z with|.inr v=>some v|.inl j=>some (Ex.go (j,(aa .i64 ((i:Int)+1)))))=some (.go (a.set i v,((i+1:Nat):Int))):=by
    intro v;rw[Ea (by omega),kaa,iA (by omega),kaa,kaa]
    grind[va]
   by_cases t:(r.Guard.length:Int)=0
   .rw[if_pos t];exact .inl ⟨_,step true,⟨i+1,by omega,rfl,by simp_all⟩,by omega⟩
   .rw[if_neg t];obtain⟨p,A,p3⟩:=BX hN he;rw[A,kaa];by_cases hc:p.2=0
    .rw[if_neg (saa.2 hc)];exact .inl ⟨_,step _,⟨i+1,by omega,rfl,by simp_all⟩,by omega⟩
    simp_all) (x:=(oaa L.length false,0)) ⟨0,qab _,rfl,by simp⟩
 rcases g with⟨x,g1,g2⟩|⟨x,g1,g3⟩
 .rw[g1,kaa];dsimp only;rw[Xu];simp only[kaa];have b:=selS_in par k x;generalize AW par k x=v at b;by_cases hv:v<0
  .rw[if_pos hv];refine⟨_,rfl,λ_=>?_⟩;rcases b with h|h|h
   .exact .inl h
   .exact .inr (.inl h)
   omega
  .rw[if_neg hv,Zn (by omega) (by rcases b with h|h|h<;>omega),kaa];have:=hm _ (taa (l:=L) (n:=v.toNat) (by rcases b with h|h|h<;>omega));exact⟨_,rfl,λ_=>.inr (.inr ⟨this.1,this.2.1⟩)⟩
 simp_all
theorem kT(u:ScE s) (he:EnvOk env) (hw:w.length=s.Defs.length) (m:Int) :
 (∃v r,Ra s env m w=some ((r,qX),{ env with Defs:=v })/\ScopeR s.Defs.length v r)\/
 ∃e d,e.Code≠0/\Ra s env m w=some (([],e),d):=by
 have hd:=u.ok.defs;unfold Ra;rw[LC (by omega) (by omega),LC (by omega) (by omega),kaa,kaa,Up u.ok,kaa];obtain⟨g,o⟩:=lQ (Np s);rw[Pr]at g o;generalize wv (Np s)=ord at g o⊢;have z:=nB (s:=Je s env m w ord)
  (λx=>∃i:Nat,i<=ord.1.length/\x.2.2=(i:Int)/\ScopeR s.Defs.length x.1 x.2.1) (λx=>(ord.1.length-x.2.2).toNat)
  (λx=>ScopeR s.Defs.length x.1 x.2) (λx=>∃e d,x=(([],e),d)/\e.Code≠0) (by
   rintro⟨a,b,c⟩ ⟨i,i1,F,A,B,C⟩;dsimp only at F A B C;subst F;unfold Je;dsimp only;by_cases hi:i<ord.1.length
   case neg=>
    rw[if_neg (by omega)];exact .inr (.inl ⟨_,rfl,A,B,C⟩)
   have hx:=g _ (taa hi);rw[if_pos (by omega),Ea hi];simp only[kaa];generalize ord.1[i]=x at hx⊢;rw[Zn (l:=w) hx.1 (by omega)];simp only[kaa];by_cases t:w[x.toNat]'(by omega)=false
   .rw[if_pos t];simp only[kaa];rw[va (by omega)];exact .inl ⟨_,rfl,⟨i+1,by omega,rfl,A,B,C⟩,by grind⟩
   rw[if_neg t];have j:EnvOk (GEnv.mk env.Date env.Inputs a env.Members env.MemberTypes env.Tables):=⟨he.tabs,he.mem⟩;obtain⟨p,H,I⟩:=xY u j m x;rw[H];simp only[kaa];by_cases hc:p.2.Code=0
   case neg=>
    simp_all
   rw[if_neg (saa.2 hc)];by_cases G:p.1 = -1
   .simp_all
   rw[if_neg G];by_cases h2:p.1 = -2
   .simp_all
   rw[if_neg h2];have D:0<=p.1/\p.1<(s.Rules.length:Int):=by
    rcases I hc with h|h|h
    all_goals omega
   rw[Zn D.1 D.2];simp only[kaa];have f:s.Rules[p.1.toNat]'(by omega)∈s.Rules:=taa _;generalize s.Rules[p.1.toNat]'(by omega)=r at f;obtain⟨q,q1,J⟩:=BX (u.n r f).2 j;rw[q1];simp only[kaa];by_cases hq:q.2=0
   case neg=>
    simp_all
   rw[if_neg (saa.2 hq)];obtain⟨k,rfl⟩:=Eab hx.1;rw[Ea (by omega),kaa,iA (by omega),kaa,Ea (by omega),kaa,iA (by omega)];simp only[kaa];rw[va (by omega)];refine .inl ⟨_,rfl,⟨i+1,by omega,rfl,?_,?_,?_⟩,by grind⟩
   .grind
   .grind
   .intro y E;rcases mem_set E with rfl|E
    .exact .inr (J hq)
    simp_all) (x:=(oaa s.Defs.length ⟨0,0,0⟩,oaa s.Defs.length 0,0)) ⟨0,qab _,rfl,by simp,by simp,λx hx=>.inl (List.eq_of_mem_replicate hx)⟩
 rcases z with⟨x,g1,g3⟩|⟨x,g1,e,d,rfl,g3⟩
 .rw[g1];exact .inl ⟨x.1,x.2,rfl,g3⟩
 simp_all
theorem xv{x:Int}(a:0<=x) (h1:x<(n:Int)):put ((xaa n).map f) x true=some ((xaa n).map λk=>f k || decide (x=(k:Int))):=by
 obtain⟨j,rfl⟩:=Eab a;rw[iA (by simp_all)];congr 1;apply fac
 all_goals grind
theorem Hr{f:Nat->α}{x:Int}(h0:0<=x) (h1:x<(n:Int)):idx ((xaa n).map f) x=some (f x.toNat):=by
 grind[Zn]
theorem gJ{l:List Int}(hl:l.length<=1048576) (hm:∀x∈l,0<=x/\x<(n:Int)) (f:Nat->Bool) 
 (c:∀a b,step (a,b)=if b<(l.length:Int)then(idx l b).bind λx=>(idx a x).bind λ_=>(put a x true).bind λq=>some (.go (q,aa .i64 (b+1)))else some (.brk a)) :
 ea step ((xaa n).map f,0)=some (.inl ((xaa n).map λk=>f k || l.contains (k:Int))):=by
 refine Od (λi=>((xaa n).map (λk=>f k || (l.take i).contains (k:Int)),(i:Int))) l.length _ (λi hi=>?_) ?_ (by simp)
 .have hx:=hm _ (taa hi);rw[c,if_pos (by omega),Ea hi,kaa,Hr hx.1 hx.2,kaa,xv hx.1 hx.2,kaa,va (by omega),Raa,naa hi]
  grind
 simp_all
theorem VC(n:Nat):oaa n false=(xaa n).map λ_=>false:=by
 apply fac<;>simp
def wB(s:GScope) (d x:Int):Bool:=decide (d=x) || (oO s d s.Defs.length).contains x
theorem z6{x:Int}:wB s d x=true↔d=x\/Way s d x:=by
 simp_all[wB,KE]
theorem cz{x:Int}(h:Way s d x):0<=x/\x<(s.Defs.length:Int):=by
 cases h with
 |one h=>exact h.2.1
 |step _ h=>exact h.2.1
def KD(r:GRule):List Int:=XB Tv r.Guard++XB Tv r.Value
def wG(s:GScope) (d:Int):List Int:=wg ((s.Rules.filter λ(r:GRule)=>wB s d r.Def).flatMap KD)
theorem FM{l:List GRule}(a:∀r∈l,r.Guard.length<=1048576/\r.Value.length<=1048576) {p:GRule->Bool}:((l.filter p).flatMap KD).length<=2097152*l.length:=by
 induction l with
 |nil=>simp
 |cons r l b=>
  have:=b λx hx=>a x (by grind)
  grind[KD,Ky]
theorem IA(c:ScOk s) (hd:0<=d/\d<(s.Defs.length:Int)):Ai s d=some (wG s d):=by
 have h1:=c.defs;have h2:=c.rules;obtain⟨l,hl,j,f⟩:=tm c d;unfold Xc at hl;rw[if_pos (by omega),kaa,if_neg (by simp_all)]at hl;unfold Ai;rw[if_pos (by omega),kaa,if_neg (by simp_all),LC (by omega) (by omega),kaa,VC,Hr hd.1 hd.2,kaa,xv hd.1 hd.2,kaa]
 cases ha:tc s with
 |none=>simp_all
 |some g=>
  rw[ha,kaa]at hl;rw[kaa]
  cases hr:Ti g d with
  |none=>simp_all
  |some l'=>
   rw[hr,kaa]at hl;obtain rfl:=Iaa hl;rw[kaa,gJ j (λx hx=>cz ((f x).1 hx)) _ (λa b=>by grind[bp]),kaa];dsimp only;have hw:((xaa s.Defs.length).map λ(k:Nat)=>(false || decide (d=(k:Int))) || l'.contains (k:Int))=(xaa s.Defs.length).map λ(k:Nat)=>wB s d (k:Int):=by
    apply Hab;intro k _;unfold wB;rw[Bool.false_or];congr 1;rw[oad,bab,bab,f,KE]
   rw[hw];have m:ea (Ph s ((xaa s.Defs.length).map λ(k:Nat)=>wB s d (k:Int))) (([]:List Int),0)=some (.inl ((s.Rules.filter λ(r:GRule)=>wB s d r.Def).flatMap KD)):=by
    refine Od (λi=>(((s.Rules.take i).filter λ(r:GRule)=>wB s d r.Def).flatMap KD,(i:Int))) s.Rules.length _ (λi hi=>?_) ?_ rfl
    .have hr:=c.g _ (taa hi);have hb:=FM (l:=s.Rules.take i) (λr hr=>c.g r (List.mem_of_mem_take hr)) (p:=λ(r:GRule)=>wB s d r.Def);have h5:(s.Rules.take i).length<=1048576:=by grind
     have q:=Ky (p:=Tv) (e:=s.Rules[i].Guard);have t:=Ky (p:=Tv) (e:=s.Rules[i].Value);unfold Ph;dsimp only;rw[if_pos (by omega),Ea hi,kaa,va (by omega),Raa,naa hi];simp only[Pab,Oab,List.flatMap_append];generalize s.Rules[i]=r at hr q t⊢;generalize ((s.Rules.take i).filter λ(r:GRule)=>wB s d r.Def).flatMap KD=acc at hb⊢;have hc:(if¬r.Def<0 then if¬(s.Defs.length:Int)<=r.Def then(idx ((xaa s.Defs.length).map λ(k:Nat)=>wB s d (k:Int)) r.Def).bind λo=>some (!o)else some true else some true)=some (!wB s d r.Def):=by
      by_cases g1:0<=r.Def
      .by_cases g2:r.Def<(s.Defs.length:Int)
       .rw[if_pos (by omega),if_pos (by omega),Hr g1 g2,kaa]
        grind
       .rw[if_pos (by omega),if_neg (by omega)];have:wB s d r.Def=false:=by
         rw[←lad,z6];rintro(h|h)
         .omega
         .have:=cz h;omega
        simp_all
      .rw[if_neg (by omega)];have:wB s d r.Def=false:=by
        rw[←lad,z6];rintro(h|h)
        .omega
        .have:=cz h;omega
       simp_all
     rw[hc,kaa];cases n:wB s d r.Def
     .simp[n]
     .rw[if_neg (by simp),vm (by omega),kaa,vm (by omega),kaa]
      grind[PD,KD,Kh]
    simp_all[Ph]
   rw[m,kaa];dsimp only;have hb:=FM (l:=s.Rules) c.g (p:=λ(r:GRule)=>wB s d r.Def);rw[Mv (by omega)];rfl
theorem N3{a c:Int}:(if¬a<b then some (decide (c<a))else some true)=some (decide (a<b) || decide (c<a)):=by
 grind
theorem kY{c:GCalendar}(h:c.Holidays.length<=1048576):∃b,je c=some b:=by
 have hs:∀i:Nat,i<c.Holidays.length->qd c (i:Int)=some (.ret false)\/qd c (i:Int)=some (.go (aa .i64 ((i:Int)+1))):=by
  intro i hi;unfold qd;rw[if_pos (by omega),Ea hi,kaa];unfold Vd;generalize c.Holidays[i]=x;by_cases h1:0<=x
  .by_cases h2:x<=109572
   .by_cases h3:0<i
    .obtain⟨k,rfl⟩:∃k,i=k+1:=⟨i-1,by omega⟩
     grind[wid,Ea]
    simp_all
   grind
  grind
 classical
 unfold je;rw[show(if¬c.Weekend<0 then if¬126<c.Weekend then some (decide (64<(c.Holidays.length:Int)))else some true else some true)=some (decide (c.Weekend<0) || (decide (126<c.Weekend) || decide (64<(c.Holidays.length:Int)))) by
  grind,kaa]
 split
 .simp
 .rcases BA h (λi=>decide (qd c (i:Int)=some (.ret false))) (step:=qd c) (λi hi=>by
   grind) (by grind[qd])with g|⟨g,-⟩
  all_goals simp_all
theorem Gy{l:GLaw}(h:(xp l).Code=0):xp l=⟨0,0,0,0⟩:=by
 unfold xp at h⊢;split at h
 .grind
 rename_i c;rw[if_neg c];generalize e:ff _ l.Enums.length=m at h⊢
 cases m with
 |some v=>exact(Oy (f:=λi=>match l.Enums[i]? with|some x=>if(Gl l i x).1=0 then none else some (⟨(Gl l i x).1,1,(i:Int),(Gl l i x).2⟩:GLawError)|none=>none) DP e h).elim
 |none=>
 dsimp only at h⊢;split at h
 .grind
 rename_i h2;rw[if_neg h2];generalize g:ff _ l.Tables.length=n at h⊢
 cases n with
 |some v=>exact(Oy (f:=λi=>match l.Tables[i]? with|some x=>if(ft l i x).1=0 then none else some (⟨(ft l i x).1,2,(i:Int),(ft l i x).2⟩:GLawError)|none=>none) TQ g h).elim
 |none=>
 dsimp only at h⊢;split at h
 .grind
 rename_i d;rw[if_neg d];generalize hf:ff _ l.Scopes.length=o at h⊢
 cases o with
 |none=>rfl
 |some v=>
  rw[Nab]at h;obtain⟨k,j,a,-⟩:=vb.1 hf;rw[naa j]at a;dsimp only at a;split at a
  .grind
  .injection a with a;subst a;rename_i b;exact(b h).elim
theorem PY{l:GLaw}(a:Valid l) {i k:Nat}(hi:i<l.Scopes.length) (hk:k<l.Scopes[i].Defs.length):ta l.Scopes[i].Defs[k].Type_ l.Enums=true:=by
 have h:=a.s i hi;generalize l.Scopes[i]=x at h hk⊢;unfold qp at h
 repeat' split at h
 all_goals first|(simp at h;done)|skip
 .rename_i v hv;exact(UI NZ hv h).elim
 .rename_i v hv;exact(UI ER hv h).elim
 .rename_i v hv;exact(UI gT hv h).elim
 .rename_i hd _ _;have:=sb.1 hd k hk
  grind[sP,Fw]
theorem dM{l:GLaw}(h:LawOk l) {c:GPayConfig}(hc:c.Calendar.Holidays.length<=1048576) (sc:Int):∃n,Fa l sc c=some n:=by
 have key:∃n,Fa l sc c=some n:=by
  unfold Fa;rw[ik h];simp only[kaa];by_cases hv:(xp l).Code=0
  .have s:=xH hv;rw[Gy hv];simp only[not_true_eq_false,if_false,and_self,beq_self_eq_true,sab];obtain⟨b,hb⟩:=kY hc;by_cases d:sc<0
   .simp[d]
   by_cases h2:(l.Scopes.length:Int)<=sc
   .simp[d,h2]
   by_cases e:c.Def<0
   .simp[d,h2,e]
   obtain⟨i,rfl⟩:∃i:Nat,sc=(i:Int):=⟨sc.toNat,by omega⟩;have hi:i<l.Scopes.length:=by omega
   rw[if_pos d,if_pos h2,if_pos e,Ea hi,kaa,kaa];by_cases p:(l.Scopes[i].Defs.length:Int)<=c.Def
   .simp[p]
   obtain⟨k,hk⟩:∃k:Nat,c.Def=(k:Int):=⟨c.Def.toNat,by omega⟩;have a:k<l.Scopes[i].Defs.length:=by omega
   rw[show decide ((l.Scopes[i].Defs.length:Int)<=c.Def)=false by simp_all];have ht:=PY s hi a;simp only[hk,Ea a,kaa,Eaa,if_false];generalize l.Scopes[i].Defs[k].Type_=t at ht⊢;by_cases q:t.Kind=3
   .have r:t.Enum=0:=by
     simp_all[ta]
    simp only[q,r,and_self,not_true_eq_false,if_false,N3,hb,kaa];by_cases g1:c.Rounding<0
    .simp[g1]
    by_cases g2:5<c.Rounding
    .simp_all
    rw[if_pos g1,if_pos g2];simp only[g1,g2,decide_false,Bool.or_self,if_true,kaa];cases b
    .simp
    simp only[gad,Eaa,if_false];generalize (decide (c.PayDay<1) || decide (28<c.PayDay))=f;generalize (decide (c.RecoveryCap<0) || decide (1000000<c.RecoveryCap))=g;generalize (decide (c.RecoveryFloor<0) || decide (1000000000000000<c.RecoveryFloor))=j;generalize (decide (c.FirstMonth<0) || decide (3599<c.FirstMonth))=m;generalize (decide (c.AppealDays<0) || decide (365<c.AppealDays))=o;cases f<;>cases g<;>cases j<;>cases m<;>cases o<;>simp
   simp_all
  simp_all
 omega
theorem Valid.rule{l:GLaw}(a:Valid l) {i k:Nat}(hi:i<l.Scopes.length) (hk:k<l.Scopes[i].Rules.length):RD l.Scopes[i] (iH l l.Scopes[i]) k l.Scopes[i].Rules[k]=0:=by
 have h:=a.s i hi;generalize l.Scopes[i]=x at h hk⊢;unfold qp at h
 repeat' split at h
 all_goals first|(simp at h;done)|skip
 .rename_i v hv;exact(UI NZ hv h).elim
 .rename_i v hv;exact(UI ER hv h).elim
 .rename_i v hv;exact(UI gT hv h).elim
 simp_all[GQ,sb]
theorem Valid.rL{l:GLaw}(a:Valid l) {i:Nat}(hi:i<l.Scopes.length):KC l i l.Scopes[i]=false/\l.Scopes[i].Inputs.length<=12/\l.Scopes[i].Defs.length<=12:=by
 have h:=a.s i hi
 grind[qp]
theorem wH{s:GSignature}(h:vH e s t=0):(cx e s).2.2=0:=by
 grind[vH]
theorem JN{s:GSignature}{k:Nat}{r:GRule}(h:RD x s k r=0):(0<r.Guard.length->(cx r.Guard s).2.2=0)/\(cx r.Value s).2.2=0:=by
 unfold RD at h;split at h
 .omega
 split at h
 .omega
 split at h
 .omega
 split at h
 .omega
 split at h
 .omega
 split at h
 .omega
 split at h
 .omega
 split at h
 .omega
 .rename_i h2;refine⟨λhl=>?_,wH h⟩;exact wH (t:=⟨1,0⟩) (Nad λa=>h2 ⟨hl,a⟩)
theorem res_mem{ops:List GType}{s:GSignature}(h:36<=op/\op<=39) {p:GType×Int}(hr:Cd ⟨op,N⟩ ops s=some p) (a:p.2=0):0<=N/\N<(s.MemberDefs.length:Int):=by
 rcases Decidable.em (0<=N/\N<(s.MemberDefs.length:Int))with hc|hc
 .omega
 exfalso;have hu:=kc (op:=op) (by omega);have c:Fj op=true:=by grind[Fj]
 unfold Cd Ka Fi me at hr;simp only[hu,c,Tb,Uo,cG]at hr;by_cases d:N<0
 .rcases(by omega:op=36\/op=37\/op=38\/op=39)with h|h|h|h<;>subst h<;>cases b:s.HasMembers<;>simp[b,d]at hr<;>(rw[←hr]at a;simp at a)
 .have e:(s.MemberDefs.length:Int)<=N:=by omega
  rcases(by omega:op=36\/op=37\/op=38\/op=39)with h|h|h|h<;>subst h<;>cases b:s.HasMembers<;>simp[b,d,e]at hr<;>(rw[←hr]at a;simp at a)
theorem QW{s:GSignature}(hN:∀n∈e,Kd n) (h:(cx e s).2.2=0):∀n∈e,Tv n=true->0<=n.N/\n.N<(s.MemberDefs.length:Int):=by
 unfold cx at h;split at h
 case isFalse h2=>simp_all
 rename_i c;have hw:=nL c;have hn:ff (qH e s) e.length=none:=by
  grind[qH,vb]
 intro n a hm;obtain⟨j,hj,rfl⟩:=waa a;have ht:=sb.1 hn j hj;obtain⟨-,-,h39⟩:=hw.ar hj;unfold qH at ht;split at ht
 case isFalse=>grind
 rename_i d;have hr:=pN hw hN hj (λi hi=>sb.1 hn i (by omega));rw[Tu hj];rw[Tu hj]at hm;have b:36<=(lh e j).Op/\(lh e j).Op<=39:=by
  grind[Tv]
 have hres:=res_mem (op:=(lh e j).Op) (N:=(lh e j).N) b hr d;omega
theorem WK{l:GLaw}(h:LawOk l) (hx:x∈l.Scopes):ScE x:=by
 obtain⟨-,g2,-,-,-,a⟩:=h.s x hx;exact⟨g2,λr hr=>(a r hr).2.2⟩
theorem bnd4{e:List GEnum}(hk:t.Kind=4):-1000000000<=(mU t e).1/\(mU t e).2<=1000000000:=by
 have hb:=Cn t e;unfold pd at hb;rw[Tb,kaa]at hb
 grind
theorem Valid.rowsN{l:GLaw}(h:Valid l):∀t∈l.Tables,t.Rows.length<=150/\(t.Value.Kind=4->RowsN t):=by
 intro t ht;have h64:=h.rows t ht;refine⟨by omega,λhk=>⟨by omega,λr hr=>?_⟩⟩;obtain⟨i,hi,rfl⟩:=waa ht;have:=h.t i hi;generalize l.Tables[i]=t at *;unfold ft at this;split at this
 .omega
 split at this
 .omega
 split at this
 case isFalse h2=>omega
 rename_i h2;unfold jt at h2;rw[if_neg (by omega)]at h2;split at h2
 .omega
 have hn:ff (mI t l.Enums) t.Rows.length=none:=by
  cases hf:ff (mI t l.Enums) t.Rows.length with
  |none=>rfl
  |some v=>
   rw[hf]at h2;obtain⟨k,_,h3,_⟩:=vb.1 hf
   grind[mI]
 obtain⟨k,b,rfl⟩:=waa hr;have c:=sb.1 hn k b;unfold mI at c;rw[naa b]at c;dsimp only at c;split at c
 .grind
 rename_i hw;unfold cR at hw;have a:yV t.Rows[k].N t.Value l.Enums=true:=by
  simp_all
 unfold yV at a;simp only[zaa,decide_eq_true_eq]at a;have:=bnd4 (t:=t.Value) (e:=l.Enums) hk;omega
theorem yM{l:GLaw}(h:Valid l) (ht:env.Tables=l.Tables) (hm:env.Members.length<=1048576):EnvOk env:=⟨by rw[ht];exact h.rowsN,hm⟩
def JH(l:GLaw) (x:GScope):GScope:=if h:0<=x.MemberScope/\x.MemberScope<(l.Scopes.length:Int)then l.Scopes[x.MemberScope.toNat]'(by omega)else⟨yaa #[],0,[],[],[]⟩
theorem eQ{l:GLaw}(h:LawOk l) (x:GScope):ScE (JH l x):=by
 unfold JH;split
 .grind[WK]
 .exact⟨⟨by simp,by simp,by simp⟩,by simp⟩
theorem xG{l:GLaw}(hl:LawOk l) (j:Valid l) {i:Nat}(hi:i<l.Scopes.length) :∀m∈wG l.Scopes[i] d,0<=m/\m<((JH l l.Scopes[i]).Defs.length:Int):=by
 intro m hm;have hx:=WK hl (taa hi);unfold wG at hm;rw[(Ig _).2.2,List.mem_flatMap]at hm;obtain⟨r,hr,hm⟩:=hm;have hr:=(hac.1 hr).1;obtain⟨k,hk,rfl⟩:=waa hr;have ht:=JN (j.rule hi hk);have hn:=hx.n _ (taa hk);have a:((iH l l.Scopes[i]).MemberDefs.length:Int)=((JH l l.Scopes[i]).Defs.length:Int):=by
  grind[iH,JH]
 rw[←a];have of:∀e:List GNode,(∀n∈e,Kd n)->(cx e (iH l l.Scopes[i])).2.2=0->m∈XB Tv e->0<=m/\m<((iH l l.Scopes[i]).MemberDefs.length:Int):=by
  intro e c h2 b;unfold XB at b;rw[(Ig _).2.2,Paa]at b;obtain⟨n,f,rfl⟩:=b;obtain⟨g,h⟩:=hac.1 f;exact QW c h2 n g h
 grind[KD,XB,wg,aae]
theorem O0{l:GLaw}(hl:LawOk l) (b:Valid l) {i:Nat}(hi:i<l.Scopes.length) :(wG l.Scopes[i] d).length<=1048576:=by
 have h1:=DE (a:=wG l.Scopes[i] d) (lo:=0) (hi:=((JH l l.Scopes[i]).Defs.length:Int)) (Ig _).1 (xG hl b hi);have:=(eQ hl l.Scopes[i]).ok.defs;omega
def eU(f:GFact):Prop:=f.Id<0\/(f.Member < -1\/8<=f.Member)\/(f.Input < -1\/12<=f.Input)\/(f.Member = -1/\f.Input = -1)\/neB f.Valid=false\/(f.Recorded<0\/109572<f.Recorded)
instance (f:GFact):Decidable (eU f):=by unfold eU;infer_instance
def fU(f:GFact):Prop:=(f.Value.Kind<1\/6<f.Value.Kind)\/(f.Input = -1/\¬f.Value.Kind=1)
instance (f:GFact):Decidable (fU f):=by unfold fU;infer_instance
def ZJ(f:GFact):Int:=if eU f then 3 else if fU f then 8 else 0
theorem andO[Decidable a] {b:Bool}:(laa (α:=Bool) (if a then some b else some false) k)=k (decide a&&b):=by
 grind
theorem orQ{b:Prop} [Decidable a] [Decidable b] :(laa (α:=Bool) (if¬a then some (decide b)else some true) k)=k (decide (a\/b)):=by
 grind
theorem iteOr{b:Prop} [Decidable a] [Decidable b] {x:α}:(if a then x else if b then x else y)=if a\/b then x else y:=by
 grind
theorem UA(f:GFact):Sg f=some (ZJ f):=by
 unfold Sg;simp only[orQ,andO,Rv,kaa,decide_eq_true_eq,zaa,beq_iff_eq,bne_iff_ne,ne_eq,iteOr];unfold ZJ;by_cases a:eU f
 .rw[if_pos a];unfold eU at a;simp_all
 .rw[if_neg a];unfold eU at a;rw[if_neg a];by_cases b:fU f
  .rw[if_pos b];unfold fU at b;simp_all
  .rw[if_neg b];unfold fU at b;simp_all
def sK(l:List GFact) (i:Nat):Option (Int×Int):=
 match l[i]? with
 |some f=>if¬ZJ f=0 then some ((i:Int),ZJ f)else if((l.take i).any λy=>decide (y.Id=f.Id))=true then some ((i:Int),7)else none
 |none=>none
def Wz(l:List GFact):Int×Int:=if 128<(l.length:Int)then(0,4)else(ff (sK l) l.length).getD (0,0)
theorem go_s{l:List GFact}:∀(rest:List GFact) (i:Nat) (seen:List Int),l.drop i=rest->(∀x,seen.contains x=(l.take i).any λy=>decide (y.Id=x))->af (i:Int) seen rest=some ((ff (λj=>sK l (i+j)) rest.length).getD (0,0))
 |[],i,seen,h,b=>rfl
 |f::rest,i,seen,h,b=>by
  have hi:i<l.length:=by
   grind[Aac]
  have hf:l[i]=f/\l.drop (i+1)=rest:=by
   grind[mab]
  unfold af;rw[UA,kaa];simp only[ff,qaa,Nat.add_zero];have he:sK l i=if¬ZJ f=0 then some ((i:Int),ZJ f)else if((l.take i).any λy=>decide (y.Id=f.Id))=true then some ((i:Int),7)else none:=by
   grind[sK]
  rw[he];by_cases a:ZJ f=0
  case neg=>simp_all
  rw[if_neg (saa.2 a),if_neg (saa.2 a),b f.Id];by_cases hd:((l.take i).any λy=>decide (y.Id=f.Id))=true
  .simp_all
  .rw[if_neg hd,if_neg hd];dsimp only;rw[show(i:Int)+1=((i+1:Nat):Int)from rfl,go_s rest (i+1) (f.Id::seen) hf.2 (λx=>by
    grind)]
   grind
theorem CC(l:List GFact):fk l=some (Wz l):=by
 unfold fk Wz;split
 .rfl
 .have:=go_s (l:=l) l 0 [] (by simp) (λx=>by simp)
  simp_all
theorem W8{l:List GFact}{i:Nat}{v:Int×Int}(h:sK l i=some v):v.1=(i:Int)/\v.2≠0:=by
 unfold sK at h
 grind
structure FactsOk (l:List GFact):Prop where
 len:l.length<=128
 c:∀f∈l,ZJ f=0
 id:∀(i j:Nat) (hi:i<l.length) (hj:j<l.length),i<j->l[i].Id≠l[j].Id
theorem XF{l:List GFact}(h:(Wz l).2=0):FactsOk l:=by
 unfold Wz at h;split at h
 .omega
 have hn:∀i,i<l.length->sK l i=none:=by
  refine sb.1 ?_
  cases hf:ff (sK l) l.length with
  |none=>rfl
  |some v=>
   grind[vb,W8]
 have a:∀i (hi:i<l.length),ZJ l[i]=0/\((l.take i).any λy=>decide (y.Id=l[i].Id))=false:=by
  grind[sK]
 refine⟨by omega,λf hf=>?_,λi j hi hj hij=>?_⟩
 .obtain⟨i,hi,rfl⟩:=waa hf
  simp_all
 .have:=(a j hj).2;rw[List.any_eq_false]at this;have:=this l[i] (by rw[List.mem_take_iff_getElem];grind)
  simp_all
def px(m i d r:Int) (f:GFact):Bool:=decide (f.Member=m)&&(decide (f.Input=i)&&(!decide (r<f.Recorded)&&rD f.Valid d))
def below(g f:GFact):Prop:=g.Recorded<f.Recorded\/(g.Recorded=f.Recorded/\g.Id<=f.Id)
instance (g f:GFact):Decidable (below g f):=by unfold below;infer_instance
theorem AsOf_p{l:List GFact}(hl:l.length<=1048576) (m i d r:Int):∃p,Zm l m i d r=some p/\
 ((p=(⟨0,0,0⟩,false)/\∀f∈l,px m i d r f=false)\/∃f∈l,p=(f.Value,true)/\px m i d r f=true/\∀g∈l,px m i d r g=true->below g f):=by
 have n:∀f:GFact,(if f.Member=m then if f.Input=i then if¬r<f.Recorded then(fc f.Valid d).bind λA=>some (!A)else some true else some true else some true)=some (!px m i d r f):=by
  grind[px,Si]
 have s:∀f g:GFact,au f g=some (decide (¬below f g)):=by
  intro f g;unfold au below;by_cases h:f.Recorded=g.Recorded
  .simp_all
  .rw[if_pos h];congr 1;grind
 have t:=G0 (s1:=Co l m i d r) (s2:=Co l m i d r)
  (λx y=>x=y/\∃j:Nat,j<=l.length/\x.2=(j:Int)/\((x.1 = -1/\∀f∈l.take j,px m i d r f=false)\/∃(k:Nat) (hk:k<l.length),x.1=(k:Int)/\px m i d r l[k]=true/\∀g∈l.take j,px m i d r g=true->below g l[k])) (λx=>(l.length-x.2).toNat)
  (λx y=>x=y/\((x = -1/\∀f∈l,px m i d r f=false)\/∃(k:Nat) (hk:k<l.length),x=(k:Int)/\px m i d r l[k]=true/\∀g∈l,px m i d r g=true->below g l[k])) (λ_ _=>False) (by
   rintro⟨a,b⟩ y ⟨rfl,j,j1,z,u⟩;dsimp only at z u;subst z;unfold Co;dsimp only;by_cases hj:j<l.length
   case neg=>
    grind
   rw[if_pos (by omega),Ea hj];simp only[kaa,n];have q:l.take (j+1)=l.take j++[l[j]]:=by simp
   cases w:px m i d r l[j]
   .simp only[Bool.not_false,if_true,kaa];rw[va (by omega)];refine .inl ⟨_,_,rfl,rfl,⟨rfl,j+1,by omega,rfl,?_⟩,by omega⟩
    grind
   .simp only[gad,Eaa,if_false];rcases u with⟨e,u⟩|⟨k,hk,e,v,h2⟩
    .subst e;rw[if_neg (by decide)];simp only[kaa,if_true];rw[va (by omega)];refine .inl ⟨_,_,rfl,rfl,⟨rfl,j+1,by omega,rfl,?_⟩,by omega⟩;refine .inr ⟨j,hj,rfl,w,λg c o=>?_⟩;rw[q]at c;rcases Saa.1 c with c|c
     .simp_all
     .rw[oab]at c;rw[c];exact .inr ⟨rfl,aad _⟩
    .subst e;rw[if_pos (by omega),Ea hk];simp only[kaa,s];by_cases hb:below l[j] l[k]
     .rw[decide_eq_false (p:=¬below l[j] l[k]) (λh=>h hb)];simp only[Eaa,if_false,kaa];rw[va (by omega)];refine .inl ⟨_,_,rfl,rfl,⟨rfl,j+1,by omega,rfl,.inr ⟨k,hk,rfl,v,λg c o=>?_⟩⟩,by omega⟩
      grind
     .rw[decide_eq_true hb];simp only[if_true,kaa];rw[va (by omega)];refine .inl ⟨_,_,rfl,rfl,⟨rfl,j+1,by omega,rfl,.inr ⟨j,hj,rfl,w,λg c o=>?_⟩⟩,by omega⟩;rw[q]at c;rcases Saa.1 c with c|c
      .have:=h2 g c o;unfold below at this hb⊢;omega
      .rw[oab]at c;rw[c];exact .inr ⟨rfl,aad _⟩) l.length (-1,0) (-1,0) (by omega) ⟨rfl,0,qab _,rfl,.inl ⟨rfl,λf hf=>by simp at hf⟩⟩
 rcases t with⟨x,y,g1,g2,rfl,g3⟩|⟨_,_,_,_,h⟩
 .unfold Zm;rw[g1];simp only[kaa];rcases g3 with⟨e,g3⟩|⟨k,hk,e,v,h2⟩
  .simp_all
  .subst e;rw[if_neg (by omega),Ea hk]
   grind
 simp_all
theorem WQ{l:List GField}(hl:l.length<=1048576) {step:List GType×Int->Option (Ex (List GType×Int) (List GType) Unit)}
 (c:∀a b,step (a,b)=if b<(l.length:Int)then(idx l b).bind λd=>(app 16 a ([d.Type_])).bind λe=>some (Ex.go (e,(aa .i64 (b+1))))else some (Ex.brk a)):ea step (([]:List GType),0)=some (.inl (l.map (·.Type_))):=by
 refine Od (λi=>((l.take i).map (·.Type_),(i:Int))) l.length _ (λi hi=>?_) ?_ rfl
 .have h2:(l.take i).length<=l.length:=by grind
  rw[c,if_pos (by omega),Ea hi,kaa,Kh (by grind),kaa,va (by omega),Raa,naa hi]
  grind
 simp_all
def aN(s:GScope) (d:Int):List Bool:=(xaa s.Defs.length).map λ(k:Nat)=>wB s d (k:Int)
def ID(ms:GScope) (l:List Int):List Bool:=(xaa ms.Defs.length).map λ(k:Nat)=>l.any λm=>wB ms m (k:Int)
theorem bN(c:ScOk s) (hd:0<=d/\d<(s.Defs.length:Int)) {l:List Int}(hl:l.length<=1048576) (hm:∀x,x∈l↔Way s d x) 
 (c:∀a b,step (a,b)=if b<(l.length:Int)then(idx l b).bind λx=>(idx a x).bind λ_=>(put a x true).bind λq=>some (.go (q,aa .i64 (b+1)))else some (.brk a)) :
 (idx ((xaa s.Defs.length).map f) d).isSome=true/\∃q,put ((xaa s.Defs.length).map f) d true=some q/\ea step (q,0)=some (.inl ((xaa s.Defs.length).map λ(k:Nat)=>f k || wB s d (k:Int))):=by
 refine⟨by grind[Hr],_,xv hd.1 hd.2,?_⟩;rw[gJ hl (λx hx=>cz ((hm x).1 hx)) _ c];congr 2;apply Hab;intro k _;rw[Bool.or_assoc];congr 1;unfold wB;congr 1;rw[oad,bab,bab,hm,KE]
theorem iy{l:List α}{i:Int}(h:(idx l i).isSome=true):∃x,idx l i=some x:=Option.isSome_iff_exists.1 h
theorem I10_p(c:ScOk s) (hd:0<=d/\d<(s.Defs.length:Int)) :Uh s.Name s.MemberScope s.Inputs s.Defs s.Rules ((xaa s.Defs.length).map f) d=some ((xaa s.Defs.length).map λ(k:Nat)=>f k || wB s d (k:Int)):=by
 obtain⟨l,h1,h2,e⟩:=tm c d;obtain⟨m1,q,m2,m3⟩:=bN c hd (f:=f) h2 e (step:=Vk l) (λa b=>by grind[Vk]);obtain⟨x,hx⟩:=iy m1
 grind[Uh,Xc]
theorem dQ{l:List Int}(hl:l.length<=1048576) (hm:∀m∈l,0<=m/\m<(ms.Defs.length:Int)) {g:List Bool->Int->Option (List Bool)}
 (c:∀f:Nat->Bool,∀m∈l,g ((xaa ms.Defs.length).map f) m=some ((xaa ms.Defs.length).map λ(k:Nat)=>f k || wB ms m (k:Int)))
 (d:∀a b,step (a,b)=if b<(l.length:Int)then(idx l b).bind λx=>(g a x).bind λq=>some (.go (q,aa .i64 (b+1)))else some (.brk a)):ea step (oaa ms.Defs.length false,0)=some (.inl (ID ms l)):=by
 refine Od (λi=>(ID ms (l.take i),(i:Int))) l.length _ (λi hi=>?_) ?_ (by simp[ID,VC])
 .rw[d,if_pos (by omega),Ea hi,kaa];unfold ID;rw[c _ _ (taa hi),kaa,va (by omega),Raa,naa hi]
  grind
 simp_all
noncomputable def LS(l:GLaw) (i:Nat) (hi:i<l.Scopes.length) (d:Int):GInterp_needs:=
 ⟨⟨l.Scopes[i].Name,l.Scopes[i].MemberScope,l.Scopes[i].Inputs,l.Scopes[i].Defs,l.Scopes[i].Rules⟩,⟨(JH l l.Scopes[i]).Name,(JH l l.Scopes[i]).MemberScope,(JH l l.Scopes[i]).Inputs,(JH l l.Scopes[i]).Defs,(JH l l.Scopes[i]).Rules⟩,aN l.Scopes[i] d,ID (JH l l.Scopes[i]) (wG l.Scopes[i] d)⟩
theorem YE{l:GLaw}(hl:LawOk l) (t:Valid l) (o:∀x∈l.Scopes,x.Rules.length<=64) {i:Nat}(hi:i<l.Scopes.length) (hd:0<=d/\d<(l.Scopes[i].Defs.length:Int)) {c:GCase}
 (v:Ec l (i:Int) c true d=some qX):fe l (i:Int) c d=(Tg l (i:Int) c (LS l i hi d)).bind λj=>
 if¬j.2.2.Code=0 then
  some ((GValue.mk 0 0 0),0,j.2.2)
 else
 (idx j.1.Values d).bind λw=>
 (idx j.1.Rules d).bind λz=>
 some (w,z,(GEvalError.mk 0 0 0 0)):=by
 have hx:=WK hl (taa hi);have h:=eQ hl l.Scopes[i];have k:=xG hl t hi (d:=d);have u:=O0 hl t hi (d:=d);have hfx:=o _ (taa hi);unfold fe LS;rw[v,kaa,if_neg (by simp[qX])];have s:ym l (i:Int)=some (l.Scopes[i].Name,l.Scopes[i].MemberScope,l.Scopes[i].Inputs,l.Scopes[i].Defs,l.Scopes[i].Rules,(JH l l.Scopes[i]).Name,(JH l l.Scopes[i]).MemberScope,(JH l l.Scopes[i]).Inputs,(JH l l.Scopes[i]).Defs,(JH l l.Scopes[i]).Rules,oaa l.Scopes[i].Defs.length false,oaa (JH l l.Scopes[i]).Defs.length false):=by
  have hb:=(t.rL hi).1;have n:=hx.ok.defs;have e:=h.ok.defs;unfold ym;rw[Ea hi,kaa];generalize l.Scopes[i]=x at hb n e⊢;rw[LC (by omega) (by omega),kaa];by_cases r:0<=x.MemberScope
  .have p:x.MemberScope<(l.Scopes.length:Int):=by
    grind[KC]
   unfold JH at e⊢;rw[dif_pos ⟨r,p⟩]at e⊢;rw[if_pos r,Zn r p,kaa,LC (by omega) (by omega)];rfl
  grind[JH]
 rw[s,kaa];dsimp only;generalize JH l l.Scopes[i]=ms at h k⊢;generalize hxx:l.Scopes[i]=x at *;have n:=hx.ok.defs;have e:=h.ok.defs;have hI11:Uk d x.Name x.MemberScope x.Inputs x.Defs x.Rules ms.Name ms.MemberScope ms.Inputs ms.Defs ms.Rules (oaa x.Defs.length false) (oaa ms.Defs.length false)=some (aN x d,ID ms (wG x d)):=by
  obtain⟨lt,A,h2,B⟩:=tm hx.ok d;obtain⟨m1,q,m2,m3⟩:=bN hx.ok hd (f:=λ_=>false) h2 B (step:=Xk lt) (λa b=>by grind[Xk]);obtain⟨y,C⟩:=iy m1;unfold Uk;rw[VC,C,kaa,m2,kaa,show Xc ⟨x.Name,x.MemberScope,x.Inputs,x.Defs,x.Rules⟩ d=some lt from A,kaa,m3,kaa];dsimp only;rw[show Ai ⟨x.Name,x.MemberScope,x.Inputs,x.Defs,x.Rules⟩ d=some (wG x d)from IA hx.ok hd,kaa];rw[dQ (ms:=ms) (l:=wG x d) u k (g:=λa m=>Uh ms.Name ms.MemberScope ms.Inputs ms.Defs ms.Rules a m) (λf m hm=>I10_p h.ok (k m hm)) (step:=Wk ms.Name ms.MemberScope ms.Inputs ms.Defs ms.Rules (wG x d)) (λa b=>by grind[Wk])]
  simp_all[aN]
 simp_all
theorem OP{l:GLaw}(k:Valid l) (hx:ScE x) (f:ScE ms) {c:GCase}(hc:c.Members.length<=1048576) {wm:List Bool}(hmk:w.length=x.Defs.length) (hmm:wm.length=ms.Defs.length) (i:Int) :
 ∃p,Tg l i c ⟨⟨x.Name,x.MemberScope,x.Inputs,x.Defs,x.Rules⟩,⟨ms.Name,ms.MemberScope,ms.Inputs,ms.Defs,ms.Rules⟩,w,wm⟩=some p/\(p.2.2.Code=0->ScopeR x.Defs.length p.1.Values p.1.Rules/\EnvOk p.2.1):=by
 have g:=f.ok.defs;unfold Tg;dsimp only;rw[WQ (l:=ms.Defs) g (step:=Zk ⟨⟨x.Name,x.MemberScope,x.Inputs,x.Defs,x.Rules⟩,⟨ms.Name,ms.MemberScope,ms.Inputs,ms.Defs,ms.Rules⟩,w,wm⟩) (λa b=>by grind[Zk]),kaa];dsimp only;have h:=nB (s:=Yk l c ⟨⟨x.Name,x.MemberScope,x.Inputs,x.Defs,x.Rules⟩,⟨ms.Name,ms.MemberScope,ms.Inputs,ms.Defs,ms.Rules⟩,w,wm⟩)
  (λa=>∃j:Nat,j<=c.Members.length/\a.2.2=(j:Int)/\a.1.length=j/\a.2.1.length=j) (λa=>(c.Members.length-a.2.2).toNat)
  (λa=>a.1.length=c.Members.length) (λa=>∃e:GEvalError,e.Code≠0/\a=(⟨[],[],[]⟩,⟨0,[],[],[],[],[]⟩,e)) (by
   rintro⟨a1,a2,a3⟩ ⟨j,j1,m,o,q⟩;dsimp only at m o q;subst m;unfold Yk;dsimp only;by_cases hj:j<c.Members.length
   case neg=>
    rw[if_neg (by omega)]
    grind
   rw[if_pos (by omega)];rw[Ea hj];simp only[kaa];have he:EnvOk (GEnv.mk c.Date c.Members[j] [] [] [] l.Tables):=yM k rfl (by simp);rcases kT f he (w:=wm) (by omega) (j:Int)with⟨v,r,s1,n⟩|⟨e,d,s0,s1⟩
   .rw[show Ra ⟨ms.Name,ms.MemberScope,ms.Inputs,ms.Defs,ms.Rules⟩ _ _ _=_ from s1];simp only[kaa,qX,not_true,if_false];rw[Kh (by grind),kaa,Kh (by grind),kaa,va (by omega)];exact .inl ⟨_,rfl,⟨j+1,by omega,rfl,by simp_all,by simp_all⟩,by grind⟩
   simp_all) (x:=(([]:List (List GValue)),([]:List GMemberResult),0)) ⟨0,qab _,rfl,rfl,rfl⟩
 rcases h with⟨⟨a1,a2⟩,g1,g4⟩|⟨a,g1,e,e0,rfl⟩
 .dsimp only at g4;rw[g1];simp only[kaa];have he:EnvOk (GEnv.mk c.Date c.Inputs [] a1 (ms.Defs.map (·.Type_)) l.Tables):=yM k rfl (by simp_all);rcases kT hx he (w:=w) (by omega) (-1)with⟨v,r,s1,n⟩|⟨e,d,s0,s1⟩
  .rw[show Ra ⟨x.Name,x.MemberScope,x.Inputs,x.Defs,x.Rules⟩ _ _ _=_ from s1];simp only[kaa,qX,not_true,if_false];exact⟨_,rfl,λ_=>⟨n,he.1,he.2⟩⟩
  simp_all
 simp_all
theorem OT{l:GLaw}(hl:LawOk l) (g:Valid l) (a:∀x∈l.Scopes,x.Rules.length<=64) {i:Nat}(hi:i<l.Scopes.length) (hd:0<=d/\d<(l.Scopes[i].Defs.length:Int)) {c:GCase}(hc:c.Members.length<=1048576)
 (b:Ec l (i:Int) c true d=some qX):∃p,fe l (i:Int) c d=some p/\(p.2.2.Code=0->S7 p.1):=by
 rw[YE hl g a hi hd b];obtain⟨p,h,j⟩:=OP g (WK hl (taa hi)) (eQ hl l.Scopes[i]) hc (w:=aN l.Scopes[i] d) (wm:=ID (JH l l.Scopes[i]) (wG l.Scopes[i] d)) (by simp[aN]) (by simp[ID]) (i:Int);unfold LS;rw[h,kaa];by_cases f:p.2.2.Code=0
 case neg=>simp_all
 rw[if_neg (saa.2 f)];have e:=(j f).1;rw[Zn hd.1 (by have:=e.vl;omega),kaa,Zn hd.1 (by have:=e.rl;omega)];exact⟨_,rfl,λ_=>e.vp _ (taa _)⟩
def Dq(l:GLaw) (x:GScope):List GField×Bool:=if h:0<=x.MemberScope/\x.MemberScope<(l.Scopes.length:Int)then((l.Scopes[x.MemberScope.toNat]'(by omega)).Inputs,true)else([],false)
theorem oy{l:GLaw}{i:Nat}(hi:i<l.Scopes.length):kd l (i:Int)=some (Dq l l.Scopes[i]):=by
 unfold kd Dq;rw[Ea hi];simp only[kaa,orO];generalize l.Scopes[i]=x;by_cases h:0<=x.MemberScope/\x.MemberScope<(l.Scopes.length:Int)
 .have hc:decide (x.MemberScope<0\/(l.Scopes.length:Int)<=x.MemberScope)=false:=by simp_all
  simp_all[Zn]
 grind
theorem zG{l:GLaw}{i:Nat}(hi:i<l.Scopes.length):Mf l (i:Int)=some ((Dq l l.Scopes[i]).1,if(Dq l l.Scopes[i]).2=true then 8 else 0):=by
 unfold Mf Dq;rw[Ea hi];simp only[kaa,orO];generalize l.Scopes[i]=x;by_cases h:0<=x.MemberScope/\x.MemberScope<(l.Scopes.length:Int)
 .have hc:decide (x.MemberScope<0\/(l.Scopes.length:Int)<=x.MemberScope)=false:=by simp_all
  simp_all[Zn]
 grind
def u9(l:GLaw) (x:GScope) (f:GFact):Option GType:=
 if f.Input = -1 then some ⟨1,0⟩else if f.Input<0 then none else((if f.Member = -1 then x.Inputs else(Dq l x).1)[f.Input.toNat]?).map (·.Type_)
noncomputable def r9(l:GLaw) (x:GScope) (members:Int) (f:GFact):Int:=
 if members<=f.Member then 6 else
 match u9 l x f with
 |none=>6
 |some t=>if¬(f.Value.Kind=t.Kind/\f.Value.Enum=t.Enum)then 8 else if yV f.Value.N t l.Enums=false then 3 else 0
noncomputable def hhF(l:GLaw) (x:GScope) (h:GHousehold) (i:Nat):Option (Int×Int):=
 match h.Facts[i]? with
 |some f=>if¬r9 l x h.Members f=0 then some ((i:Int),r9 l x h.Members f)else none
 |none=>none
theorem inO{n lo hi:Int}:(laa (α:=Bool) (if¬n<lo then some (decide (hi<n))else some true) k)=k (!(decide (lo<=n)&&decide (n<=hi))):=by
 grind[decide]
theorem typeO{a c:Int}:(laa (α:=Bool) (if a=b then some (c !=d)else some true) k)=k (decide (¬(a=b/\c=d))):=by
 by_cases e:a=b
 .rw[if_pos e,kaa];congr 1
  grind
 simp_all
theorem fac_p{l:GLaw}{h:GHousehold}{i:Nat}(hi:i<l.Scopes.length) (e:h.Scope=(i:Int)) (hl:h.Facts.length<=128):ea (Rf l h (Dq l l.Scopes[i])) 0=some (fi () (ff (hhF l l.Scopes[i] h) h.Facts.length)):=
 kh (λj=>(j:Int)) _ h.Facts.length () (λj hj _=>by
  unfold Rf hhF;rw[if_pos (by omega),Ea hj,naa hj,e,Ea hi];simp only[kaa];generalize h.Facts[j]=f;unfold r9;by_cases c:h.Members<=f.Member
  .rw[if_pos c,if_pos c,if_pos (by decide)];rfl
  rw[if_neg c,if_neg c];have d:(if f.Member=(-1)then some l.Scopes[i].Inputs else some (Dq l l.Scopes[i]).1)=some (if f.Member = -1 then l.Scopes[i].Inputs else(Dq l l.Scopes[i]).1):=by grind
  rw[d,kaa];unfold u9;generalize (if f.Member = -1 then l.Scopes[i].Inputs else(Dq l l.Scopes[i]).1)=a;have fin:∀t:GType,(laa (α:=Bool) (if f.Value.Kind=t.Kind then some (f.Value.Enum !=t.Enum)else some true) λg=>if g=true then some (Ex.ret (((j:Nat):Int),(8:Int)):Ex Int Unit (Int×Int))else(pd (GType.mk t.Kind t.Enum) l.Enums).bind λb=>laa (α:=Bool) (if¬f.Value.N<b.1 then some (decide (b.2<f.Value.N))else some true) λk=>if k=true then some (Ex.ret (((j:Nat):Int),3))else some (Ex.go (aa .i64 ((j:Int)+1)))) =
   some (zE (((j+1:Nat):Int)) (if¬(if¬(f.Value.Kind=t.Kind/\f.Value.Enum=t.Enum)then(8:Int)else if yV f.Value.N t l.Enums=false then 3 else 0)=0 then some ((j:Int),(if¬(f.Value.Kind=t.Kind/\f.Value.Enum=t.Enum)then(8:Int)else if yV f.Value.N t l.Enums=false then 3 else 0))else none)):=by
   intro t;rw[typeO,va (by omega)];by_cases h2:f.Value.Kind=t.Kind/\f.Value.Enum=t.Enum
   .rw[decide_eq_false (p:=¬(f.Value.Kind=t.Kind/\f.Value.Enum=t.Enum)) (λh=>h h2),if_neg (by simp),Cn,kaa,inO];simp only[h2,not_true,and_self,if_false];unfold yV;by_cases m:(decide ((mU t l.Enums).1<=f.Value.N)&&decide (f.Value.N<=(mU t l.Enums).2))=true
    all_goals simp_all[zE]
   .rw[decide_eq_true h2,if_pos rfl,if_pos h2,if_pos (by decide)];rfl
  by_cases h2:f.Input = -1
  .rw[if_neg (saa.2 h2),if_pos h2,kaa];dsimp only;exact fin ⟨1,0⟩
  .rw[if_pos h2,if_neg h2,orO];by_cases m:f.Input<0\/(a.length:Int)<=f.Input
   .rw[decide_eq_true m,if_pos rfl,kaa];dsimp only;have:(if f.Input<0 then none else(a[f.Input.toNat]?).map (·.Type_))=none:=by
     grind
    rw[this];dsimp only;rw[if_pos (by decide)];rfl
   simp_all[if_neg,Zn]) (λ_=>by grind[Rf])
noncomputable def EO(l:GLaw) (h:GHousehold):Int×Int:=
 match l.Scopes[h.Scope.toNat]? with
 |none=>(-1,6)
 |some x=>if h.Scope<0 then(-1,6)else if h.Id<0\/h.Members<0\/8<h.Members\/(h.Members≠0/\(Dq l x).2=false)then(-1,3)else
  if¬(Wz h.Facts).2=0 then Wz h.Facts else(ff (hhF l x h) h.Facts.length).getD (0,0)
theorem nest4{b c d:Prop} [Decidable a] [Decidable b] [Decidable c] [Decidable d] {m:Bool}:(laa (α:=Bool) (if¬a then if¬b then if¬c then if¬d then some (!m)else some false else some true else some true else some true) k)=k (decide (a\/b\/c\/(¬d/\m=false))):=by
 by_cases a<;>by_cases b<;>by_cases c<;>by_cases d<;>cases m<;>simp[*]
theorem Sc(l:GLaw) (h:GHousehold) (hl:l.Scopes.length<=1048576):Rc l h=some (EO l h):=by
 unfold Rc EO;rw[orO];by_cases hs:h.Scope<0\/(l.Scopes.length:Int)<=h.Scope
 .grind
 rw[if_neg (by simp_all)];obtain⟨i,hi⟩:=Eab (show 0<=h.Scope by omega);have a:i<l.Scopes.length:=by omega
 rw[hi,oy a,kaa,Int.toNat_natCast,naa a];dsimp only;rw[nest4,if_neg (show¬((i:Int)<0) by omega)];by_cases hb:h.Id<0\/h.Members<0\/8<h.Members\/(¬h.Members=0/\(Dq l l.Scopes[i]).2=false)
 .simp_all
 rw[if_neg (by simp_all),if_neg hb,CC,kaa];by_cases hf:(Wz h.Facts).2=0
 case neg=>simp_all
 rw[if_neg (saa.2 hf),if_neg (saa.2 hf),fac_p a hi (XF hf).len,kaa];cases ff (hhF l l.Scopes[i] h) h.Facts.length<;>rfl
structure HhOk (l:GLaw) (h:GHousehold) (i:Nat):Prop where
 hi:i<l.Scopes.length
 sc:h.Scope=(i:Int)
 m:0<=h.Members/\h.Members<=8
 ms:h.Members≠0->(Dq l l.Scopes[i]).2=true
 f:FactsOk h.Facts
 t:∀f∈h.Facts,f.Member<h.Members/\∃t,u9 l l.Scopes[i] f=some t/\f.Value.Kind=t.Kind/\f.Value.Enum=t.Enum/\yV f.Value.N t l.Enums=true
theorem XA{l:GLaw}{h:GHousehold}(hv:(EO l h).2=0):∃i,HhOk l h i:=by
 unfold EO at hv
 cases hx:l.Scopes[h.Scope.toNat]? with
 |none=>simp_all
 |some x=>
  rw[hx]at hv;dsimp only at hv;split at hv
  .omega
  split at hv
  .omega
  split at hv
  .omega
  rename_i h0 h1 h2;obtain⟨b,rfl⟩:=List.getElem?_eq_some_iff.1 hx;refine⟨h.Scope.toNat,b,by omega,by omega,λhm=>?_,XF (Gac.1 h2),λf hf=>?_⟩
  .simp_all
  .have hn:ff (hhF l l.Scopes[h.Scope.toNat] h) h.Facts.length=none:=by
    cases hff:ff (hhF l l.Scopes[h.Scope.toNat] h) h.Facts.length with
    |none=>rfl
    |some v=>
     grind[hhF,vb]
   obtain⟨k,hk,rfl⟩:=waa hf;have:=sb.1 hn k hk;unfold hhF at this;rw[naa hk]at this;dsimp only at this;split at this
   .cases this
   .rename_i a;have a:=Gac.1 a;unfold r9 at a
    grind
noncomputable def lC(l:List GFact) (m i d r:Int):GValue×Bool:=(Zm l m i d r).getD (⟨0,0,0⟩,false)
theorem lF{l:List GFact}(hl:l.length<=1048576) (m i d r:Int):Zm l m i d r=some (lC l m i d r)/\
 ((lC l m i d r=(⟨0,0,0⟩,false)/\∀f∈l,px m i d r f=false)\/∃f∈l,lC l m i d r=(f.Value,true)/\px m i d r f=true/\∀g∈l,px m i d r g=true->below g f):=by
 obtain⟨p,h1,h3⟩:=AsOf_p hl m i d r
 grind[lC]
noncomputable def uo(l:List GFact) (m:Int) (n:Nat) (d r:Int):List GValue×Bool:=
 if((xaa n).all λi=>(lC l m (i:Int) d r).2)=true then((xaa n).map λ(i:Nat)=>(lC l m (i:Int) d r).1,true)else([],false)
theorem vals_ff{l:List GFact}:ff (λi=>if(lC l m (i:Int) d r).2=false then some (([],false):List GValue×Bool)else none) n=if((xaa n).all λi=>(lC l m (i:Int) d r).2)=true then none else some ([],false):=by
 by_cases h:((xaa n).all λi=>(lC l m (i:Int) d r).2)=true
 .simp_all[sb]
 .rw[if_neg h]
  cases hf:ff (λi=>if(lC l m (i:Int) d r).2=false then some (([],false):List GValue×Bool)else none) n with
  |none=>
   grind[sb]
  |some v=>
   grind[vb]
theorem yH{l:List GFact}(hl:l.length<=1048576) (hn:n<=1048576) (m d r:Int):xe l m (n:Int) d r=some (uo l m n d r):=by
 unfold xe;rw[LC (by omega) (by omega),kaa];have a:ea (Xd l m d r (oaa n ⟨0,0,0⟩)) (oaa n ⟨0,0,0⟩,0)=some (fi ((xaa n).map λ(i:Nat)=>(lC l m (i:Int) d r).1) (ff (λi=>if(lC l m (i:Int) d r).2=false then some (([],false):List GValue×Bool)else none) n)):=by
  refine kh (step:=Xd l m d r (oaa n ⟨0,0,0⟩)) (λt=>(((xaa n).map λ(i:Nat)=>(lC l m (i:Int) d r).1).take t++oaa (n-t) ⟨0,0,0⟩,(t:Int))) _ n _ (λt ht _=>?_) (λ_=>?_) (by simp)
  .unfold Xd;dsimp only;rw[if_pos (by simp_all),(lF hl m (t:Int) d r).1,kaa];by_cases h:(lC l m (t:Int) d r).2=false
   .rw[if_pos h,if_pos h];rfl
   .rw[if_neg h,if_neg h,Ea (by grind),kaa,iA (by grind),kaa,va (by omega),OG ht];unfold zE;dsimp only;congr 3;rw[List.set_append_right _ _ (by grind),show t-(((xaa n).map λ(i:Nat)=>(lC l m (i:Int) d r).1).take t).length=0 by grind,show n-t=(n-(t+1))+1 by omega,List.replicate_succ,List.set_cons_zero];simp
  simp_all[Xd,Bac]
 rw[a,vals_ff];unfold uo;split<;>rfl
noncomputable def prS(l:List GFact) (d r:Int) (m:Nat):Bool:=(lC l (m:Int) (-1) d r).2&&(decide ((lC l (m:Int) (-1) d r).1.Kind=1)&&((lC l (m:Int) (-1) d r).1.N==1))
theorem prS_eq{l:List GFact}{m:Nat}:prS l d r m=((lC l (m:Int) (-1) d r).2&&(decide ((lC l (m:Int) (-1) d r).1.Kind=1)&&((lC l (m:Int) (-1) d r).1.N==1))):=rfl
noncomputable def Ko(h:GHousehold) (d r:Int):List Int:=((xaa (min (max h.Members 0) 8).toNat).filter (prS h.Facts d r)).map λ(m:Nat)=>(m:Int)
theorem pQ{v:GValue}{b:Bool}:(laa (α:=Bool) (if b=true then if v.Kind=1 then some (v.N==1)else some false else some false) k)=k (b&&(decide (v.Kind=1)&&(v.N==1))):=by
 grind
theorem dN{h:GHousehold}(hl:h.Facts.length<=1048576) (d r:Int):bh h d r=some (Ko h d r):=by
 obtain⟨n,hn⟩:∃n,(min (max h.Members 0) 8).toNat=n:=⟨_,rfl⟩;have hn8:n<=8:=by omega
 have bound:∀t,t<=n->(((xaa t).filter (prS h.Facts d r)).map λ(m:Nat)=>(m:Int)).length<=t:=by
  grind
 have e1:ea (bf h d r) (([]:List Int),0)=some (.inl (Ko h d r)):=by
  refine Od (λt=>(((xaa t).filter (prS h.Facts d r)).map λ(m:Nat)=>(m:Int),(t:Int))) n _ (λt ht=>?_) ?_ rfl
  .have:=bound t (by omega);unfold bf;dsimp only;rw[if_pos (by omega),(lF hl (t:Int) (-1) d r).1,kaa,pQ,va (by omega),ead]
   grind[prS_eq,Kh]
  grind[bf,Ko]
 grind[bh]
noncomputable def Rr(l:GLaw) (x:GScope) (h:GHousehold) (d r:Int):GCase×Int:=
 if d<0\/109572<d then(⟨0,[],[]⟩,3)else
 if(uo h.Facts (-1) x.Inputs.length d r).2=false then(⟨0,[],[]⟩,6)else
 if((Ko h d r).all λm=>(uo h.Facts m (Dq l x).1.length d r).2)=true then(⟨d,(uo h.Facts (-1) x.Inputs.length d r).1,(Ko h d r).map λm=>(uo h.Facts m (Dq l x).1.length d r).1⟩,0)else(⟨0,[],[]⟩,6)
theorem S0{L:List Int}(hL:L.length<=1048576) {v:Int->List GValue×Bool}{g:Int->Option (List GValue×Bool)}(d:∀m∈L,g m=some (v m)) {step:List (List GValue)×Int->Option (Ex (List (List GValue)×Int) (List (List GValue)) (GCase×Int))}
 (e:∀a b,step (a,b)=if b<(L.length:Int)then(idx L b).bind λm=>(g m).bind λx=>if x.2=false then some (.ret (⟨0,[],[]⟩,6))else(app 24 a ([x.1])).bind λq=>some (.go (q,aa .i64 (b+1)))else some (.brk a)) :
 ea step (([]:List (List GValue)),0)=some (if(L.all λm=>(v m).2)=true then .inl (L.map λm=>(v m).1)else .inr (⟨0,[],[]⟩,6)):=by
 have c:ea step (([]:List (List GValue)),0)=some (fi (L.map λm=>(v m).1) (ff (λi=>if(L[i]?.any λm=>!(v m).2)=true then some ((⟨0,[],[]⟩,6):GCase×Int)else none) L.length)):=by
  refine kh (step:=step) (λt=>((L.map λm=>(v m).1).take t,(t:Int))) _ L.length _ (λt ht _=>?_) (λ_=>?_) (by simp)
  .rw[e,if_pos (by omega),Ea ht,kaa,d _ (taa ht),kaa,naa ht];simp only[Option.any_some];by_cases hv:(v L[t]).2=false
   .grind[zE]
   .rw[if_neg hv,Kh (by grind),kaa,va (by omega),Raa]
    grind[zE]
  simp_all[Bac]
 rw[c];by_cases ha:(L.all λm=>(v m).2)=true
 .rw[if_pos ha,sb.2 (λi hi=>by
   simp_all)]
  rfl
 .rw[if_neg ha]
  cases hf:ff (λi=>if(L[i]?.any λm=>!(v m).2)=true then some ((⟨0,[],[]⟩,6):GCase×Int)else none) L.length with
  |none=>
   exfalso;apply ha;rw[Xaa];intro m hm;obtain⟨k,hk,rfl⟩:=waa hm
   grind[sb]
  |some w=>
   obtain⟨k,_,h2,_⟩:=vb.1 hf;split at h2
   .rw[←h2];rfl
   simp_all
theorem iJ(h:GHousehold) (d r:Int):(Ko h d r).length<=8:=by
 grind[Ko]
theorem iN{l:GLaw}(hl:LawOk l) (x:GScope):(Dq l x).1.length<=1048576:=by
 unfold Dq;split
 .exact(hl.s _ (taa _)).2.2.1
 simp
theorem wX{l:GLaw}(hl:LawOk l) (n:(xp l).Code=0) {h:GHousehold}(hv:(EO l h).2=0) {i:Nat}(hi:i<l.Scopes.length) (k:h.Scope=(i:Int)) (d r:Int):Fh l h d r=some (Rr l l.Scopes[i] h d r):=by
 have c:=(hl.s _ (taa hi)).2.2.1;have e:=iN hl l.Scopes[i];have hml:=iJ h d r;obtain⟨i',j⟩:=XA hv;have hf:h.Facts.length<=1048576:=by have:=j.f.len;omega
 unfold Fh Rr;rw[ik hl,kaa,Gy n,if_neg (by simp),Sc l h hl.ns,kaa,if_neg (saa.2 hv),orO];by_cases hd:d<0\/109572<d
 .simp_all
 rw[if_neg (by simp_all),if_neg hd,k,Ea hi,kaa,yH hf c,kaa];by_cases hv:(uo h.Facts (-1) l.Scopes[i].Inputs.length d r).2=false
 .simp_all
 rw[if_neg hv,if_neg hv,oy hi,kaa,dN hf d r,kaa];rw[S0 (L:=Ko h d r) (by omega) (v:=λm=>uo h.Facts m (Dq l l.Scopes[i]).1.length d r) (g:=λm=>xe h.Facts m ((Dq l l.Scopes[i]).1.length:Int) d r) (λm _=>yH hf e m d r) (step:=Nj h d r (Dq l l.Scopes[i]) (Ko h d r)) (λa b=>by grind[Nj]),kaa]
 grind
def PX(l:GLaw) (fs:List GField) (vs:List GValue):Prop:=vs.length=fs.length/\∀j (h1:j<vs.length) (h2:j<fs.length),vs[j].Kind=fs[j].Type_.Kind/\vs[j].Enum=fs[j].Type_.Enum/\yV vs[j].N fs[j].Type_ l.Enums=true
theorem Ox{l:GLaw}{vs:List GValue}(hl:fs.length<=1048576) (h:PX l fs vs):Be l vs fs=some (0,0):=by
 obtain⟨h1,h2⟩:=h;unfold Be;rw[if_neg (by omega),if_neg (by omega)];have:ea (Ce l vs fs) 0=some (.inl ()):=by
  refine Od (λi=>(i:Int)) vs.length _ (λi hi=>?_) ?_ rfl
  .obtain⟨a,b,c⟩:=h2 i hi (by omega);unfold Ce;rw[if_pos (by omega),Ea hi,kaa,Ea (by omega),kaa,typeO,decide_eq_false (p:=¬(vs[i].Kind=(fs[i]'(by omega)).Type_.Kind/\vs[i].Enum=(fs[i]'(by omega)).Type_.Enum)) (λh=>h ⟨a,b⟩),if_neg (by simp),Cn,kaa,inO]
   grind[yV,va]
  simp_all[Ce]
 simp_all
theorem ET{l:GLaw}{h:GHousehold}{i:Nat}(a:HhOk l h i) (hx:l.Scopes[i]'a.hi=x) (hm:fs=if m = -1 then x.Inputs else(Dq l x).1) (hv:(uo h.Facts m fs.length d r).2=true):PX l fs (uo h.Facts m fs.length d r).1:=by
 unfold uo at hv⊢;split at hv
 case isFalse=>grind
 rename_i ha;rw[if_pos ha];refine⟨by simp,λj b h2=>?_⟩;simp only[Waa,List.length_range]at b;simp only[aac,Vac];have hj:=Xaa.1 ha j (by simp_all);have hf:h.Facts.length<=1048576:=by have:=a.f.len;omega
 rcases(lF hf m (j:Int) d r).2 with⟨e,-⟩|⟨f,f1,f2,f3,-⟩
 .simp_all
 .rw[f2];dsimp only;obtain⟨-,t,t1,t2,t3,t4⟩:=a.t f f1;unfold px at f3;simp only[zaa,decide_eq_true_eq]at f3;unfold u9 at t1
  simp_all
theorem yR{l:GLaw}(hl:LawOk l) (q:(xp l).Code=0) {h:GHousehold}{i:Nat}(a:HhOk l h i) (hc:(Rr l (l.Scopes[i]'a.hi) h d r).2=0) {def_:Int}(hd:0<=def_/\def_<((l.Scopes[i]'a.hi).Defs.length:Int)) :
 Ec l (i:Int) (Rr l (l.Scopes[i]'a.hi) h d r).1 true def_=some qX/\(Rr l (l.Scopes[i]'a.hi) h d r).1.Members.length<=8:=by
 have hi:=a.hi;have e:=(hl.s _ (taa hi)).2.2.1;have g:=iN hl l.Scopes[i];have hml:=iJ h d r;have hns:=hl.ns;unfold Rr at hc⊢;split at hc
 .omega
 rename_i p;rw[if_neg p];split at hc
 .omega
 rename_i h2;rw[if_neg h2];split at hc
 case isFalse=>omega
 rename_i n;rw[if_pos n];have h2:(uo h.Facts (-1) l.Scopes[i].Inputs.length d r).2=true:=by simp_all
 have t:=ET a rfl (m:=-1) (fs:=l.Scopes[i].Inputs) (by simp) h2;refine⟨?_,by simp_all⟩;unfold Ec;rw[ik hl,kaa,if_neg (saa.2 q),Ea hi,kaa];have b:(if¬(i:Int)<0 then if¬(l.Scopes.length:Int)<=(i:Int)then if true=true then if¬def_<0 then some (decide ((l.Scopes[i].Defs.length:Int)<=def_))else some true else some false else some true else some true)=some false:=by
  simp_all
 rw[b,kaa,if_neg (by simp)];have c:Oi l (i:Int) ⟨d,(uo h.Facts (-1) l.Scopes[i].Inputs.length d r).1,(Ko h d r).map λm=>(uo h.Facts m (Dq l l.Scopes[i]).1.length d r).1⟩=some (0,0,0):=by
  unfold Oi;dsimp only;rw[orO,if_neg (by simp_all),orO,if_neg (by simp_all),Ea hi,kaa,Ox e t,kaa,if_neg (by simp),zG hi,kaa];have hlim:¬(if(Dq l l.Scopes[i]).2=true then(8:Int)else 0)<(((Ko h d r).map λm=>(uo h.Facts m (Dq l l.Scopes[i]).1.length d r).1).length:Int):=by
   rw[Waa];split
   .omega
   .rename_i hb;have hm0:h.Members=0:=Nad λo=>hb (a.ms o)
    grind[Ko]
  rw[if_neg hlim];have hlp:ea (sg l ⟨d,(uo h.Facts (-1) l.Scopes[i].Inputs.length d r).1,(Ko h d r).map λm=>(uo h.Facts m (Dq l l.Scopes[i]).1.length d r).1⟩ ((Dq l l.Scopes[i]).1,if(Dq l l.Scopes[i]).2=true then 8 else 0)) 0=some (.inl ()):=by
   refine Od (λi=>(i:Int)) (Ko h d r).length _ (λj hj=>?_) ?_ rfl
   .unfold sg;dsimp only;rw[if_pos (by simp_all),Ea (by simp_all),kaa];simp only[aac];have f:=taa hj;have k:=Xaa.1 n _ f;have hne:(Ko h d r)[j]≠-1:=by
     grind[Ko]
    rw[Ox g (ET a rfl (fs:=(Dq l l.Scopes[i]).1) (by simp_all) k),kaa,if_neg (by simp),va (by omega)]
   simp_all[sg]
  simp_all
 rw[c];rfl
structure ConfOk (l:GLaw) (i:Nat) (c:GPayConfig):Prop where
 v:(xp l).Code=0
 hi:i<l.Scopes.length
 d:0<=c.Def/\c.Def<((l.Scopes[i]'hi).Defs.length:Int)
 r:0<=c.Rounding/\c.Rounding<=5
theorem HY{l:GLaw}(h:LawOk l) {c:GPayConfig}{sc:Int}(hv:Fa l sc c=some 0):∃i:Nat,sc=(i:Int)/\ConfOk l i c:=by
 unfold Fa at hv;rw[ik h,kaa]at hv;by_cases a:(xp l).Code=0
 case neg=>simp_all
 rw[Gy a,if_neg (by simp)]at hv;by_cases b:sc<0
 .grind
 by_cases h2:(l.Scopes.length:Int)<=sc
 .grind
 by_cases d:c.Def<0
 .grind
 obtain⟨i,rfl⟩:=Eab (show 0<=sc by omega);have hi:i<l.Scopes.length:=by omega
 rw[if_pos b,if_pos h2,if_pos d,Ea hi]at hv;simp only[kaa]at hv;by_cases e:(l.Scopes[i].Defs.length:Int)<=c.Def
 .simp_all
 rw[decide_eq_false e,if_neg (by simp),Zn (by omega) (by omega)]at hv;simp only[kaa,N3]at hv;split at hv
 .grind
 by_cases f:0<=c.Rounding/\c.Rounding<=5
 .exact⟨i,rfl,a,hi,by omega,f⟩
 grind
noncomputable def ie(l:GLaw) (i:Nat) (h:GHousehold) (def_ rec d:Int):GValue×Int:=
 match l.Scopes[i]? with
 |none=>(⟨0,0,0⟩,1)
 |some x=>
  if¬(Rr l x h d rec).2=0 then(⟨0,0,0⟩,(Rr l x h d rec).2)else
  ((((fe l (i:Int) (Rr l x h d rec).1 def_).getD (⟨0,0,0⟩,0,qX)).1),((fe l (i:Int) (Rr l x h d rec).1 def_).getD (⟨0,0,0⟩,0,qX)).2.2.Code)
structure Ctx (l:GLaw) (h:GHousehold) (c:GPayConfig) (i:Nat):Prop where
 ok:LawOk l
 rL:∀x∈l.Scopes,x.Rules.length<=64
 cf:ConfOk l i c
 hv:(EO l h).2=0
 sc:h.Scope=(i:Int)
variable {l:GLaw}{i:Nat}{c:GPayConfig}{h:GHousehold}
theorem val0_b{v:GValue}(h:S7 v):-1000000000000000<=v.N/\v.N<=1000000000000000:=by
 rcases h with h|h
 .simp_all
 .have:=h.range;omega
def Fu:Int->List GDateRange->Int->Prop
 |a,[],b=>a=b
 |a,p::l,b=>p.From=a/\p.From<p.To/\Fu p.To l b
theorem mD{to:Int}:∀{a:Int}{l:List Int},a<to->l.Pairwise (·<·)->(∀x∈l,a<x/\x<to)->Fu a (vy to a l) to
 |a,[],h,_,_=>⟨rfl,h,rfl⟩
 |a,x::l,h,b,hm=>by
  rw[List.pairwise_cons]at b;have hx:=hm x (by simp);exact⟨rfl,hx.1,mD hx.2 b.2 λy c=>⟨b.1 y c,(hm y (by grind)).2⟩⟩
def Av(v:Int->Int) (l:List GDateRange):Int:=(l.map λp=>v p.From*(p.To-p.From)).sum
def Ur(l:List GDateRange):Int:=(l.map λp=>p.To-p.From).sum
theorem Nq:∀{a b:Int}{l:List GDateRange},Fu a l b->Ur l=b-a/\a<=b
 |a,b,[],h=>by simp only[Fu]at h;grind[Ur]
 |a,b,p::l,h=>by
  obtain⟨h1,h2,c⟩:=h;obtain⟨h4,h5⟩:=Nq c
  grind[Ur]
theorem WW{v:Int->Int}{l:List GDateRange}:Av v (l++[p])=Av v l+v p.From*(p.To-p.From):=by simp[Av]
theorem LU{l:List GDateRange}:Ur (l++[p])=Ur l+(p.To-p.From):=by simp[Ur]
theorem uF:∀{a b:Int}{l:List GDateRange}(j:Nat),Fu a l b->∃c,Fu a (l.take j) c/\c<=b
 |a,b,l,0,h=>⟨a,by simp[Fu],(Nq h).2⟩
 |a,b,[],j+1,h=>⟨b,by simp_all,aad _⟩
 |a,b,p::l,j+1,h=>by
  obtain⟨d,h2,e⟩:=h;obtain⟨c,f,g⟩:=uF j e;exact⟨c,⟨d,h2,f⟩,g⟩
theorem GI:∀{a b:Int}{l:List GDateRange},Fu a l b->∀p∈l,a<=p.From/\p.From<p.To/\p.To<=b
 |a,b,[],h,p,c=>by simp at c
 |a,b,q::l,h,p,c=>by
  obtain⟨h1,h2,d⟩:=h;have h4:=(Nq d).2;rcases lab.1 c with rfl|c
  .omega
  .have:=GI d p c;omega
theorem mulb{n k:Int}{B:Nat}(h1:-(B:Int)<=n/\n<=B) (h2:0<=k):-(B*k)<=n*k/\n*k<=B*k:=by
 constructor
 .rw[←Int.neg_mul];simp_all[nac]
 simp_all[nac]
theorem dR{v:Int->Int}:∀{a b:Int}{l:List GDateRange},Fu a l b->(∀p∈l,-1000000000000000<=v p.From/\v p.From<=1000000000000000)->-(1000000000000000*Ur l)<=Av v l/\Av v l<=1000000000000000*Ur l
 |a,b,[],h,hv=>by simp[Av,Ur]
 |a,b,p::l,h,hv=>by
  obtain⟨h1,h2,c⟩:=h;have ih:=dR c λq hq=>hv q (by grind);have hp:=mulb (n:=v p.From) (k:=p.To-p.From) (B:=1000000000000000) (hv p (by simp)) (by omega)
  grind[Av,Ur]
noncomputable def zA(v:Int->GValue×Int) (rounding:Int) (l:List GDateRange):Int×Int:=
 match ff (λj=>match l[j]? with|some p=>if¬(v p.From).2=0 then some (v p.From).2 else none|none=>none) l.length with
 |some e=>(0,e)
 |none=>(max (JR (Av (λd=>(v d).1.N) l) (Ur l) rounding).1 0,0)
theorem US(H:Ctx l h c i) (rec d:Int):∃q:GCase×Int,Fh l h d rec=some q/\
 ((q.2≠0/\ie l i h c.Def rec d=(⟨0,0,0⟩,q.2))\/(q.2=0/\∃p,fe l h.Scope q.1 c.Def=some p/\ie l i h c.Def rec d=(p.1,p.2.2.Code)/\(p.2.2.Code=0->S7 p.1))):=by
 have hi:=H.cf.hi;obtain⟨b,e⟩:=XA H.hv;have a:b=i:=by have:=e.sc;have:=H.sc;omega
 subst a;refine⟨Rr l l.Scopes[b] h d rec,wX H.ok H.cf.v H.hv hi H.sc d rec,?_⟩;unfold ie;rw[naa hi];dsimp only;by_cases hc:(Rr l l.Scopes[b] h d rec).2=0
 .right;refine⟨hc,?_⟩;obtain⟨f,k2⟩:=yR H.ok H.cf.v e hc H.cf.d;obtain⟨p,g,p3⟩:=OT H.ok (xH H.cf.v) H.rL hi H.cf.d (by omega) f;rw[if_neg (saa.2 hc),H.sc,g]
  simp_all
 simp_all
theorem xB(H:Ctx l h c i) (rec d:Int) (h0:(ie l i h c.Def rec d).2=0):-1000000000000000<=(ie l i h c.Def rec d).1.N/\(ie l i h c.Def rec d).1.N<=1000000000000000:=by
 obtain⟨q,-,hq⟩:=US H rec d;rcases hq with⟨q1,q2⟩|⟨-,p,-,p3,p4⟩
 all_goals simp_all[val0_b]
theorem UX(H:Ctx l h c i) {q:List GDateRange}{a:Int}(hq:Fu a q b) (hab:a<b/\b-a<=31) (hlen:q.length<=65536) (rec:Int) :
 Nn l h c q rec=some (zA (ie l i h c.Def rec) c.Rounding q):=by
 have m:∀j (hj:j<q.length),(∀k,k<j->(match q[k]? with|some p=>if¬(ie l i h c.Def rec p.From).2=0 then some (ie l i h c.Def rec p.From).2 else none|none=>(none:Option Int))=none)->
  (0<=Ur (q.take j)/\Ur (q.take j)<=31)/\-(1000000000000000*Ur (q.take j))<=Av (λd=>(ie l i h c.Def rec d).1.N) (q.take j)/\Av (λd=>(ie l i h c.Def rec d).1.N) (q.take j)<=1000000000000000*Ur (q.take j):=by
  intro j hj hn;obtain⟨e,C,h2⟩:=uF j hq;obtain⟨h3,h4⟩:=Nq C;refine⟨by omega,dR C λp x=>?_⟩;obtain⟨k,hk,rfl⟩:=waa x;rw[iab]at hk;have:=hn k (by omega);rw[naa (by omega)]at this
  simp_all[xB]
 have f:(∀k,k<q.length->(match q[k]? with|some p=>if¬(ie l i h c.Def rec p.From).2=0 then some (ie l i h c.Def rec p.From).2 else none|none=>(none:Option Int))=none)->
  -(1000000000000000*Ur q)<=Av (λd=>(ie l i h c.Def rec d).1.N) q/\Av (λd=>(ie l i h c.Def rec d).1.N) q<=1000000000000000*Ur q:=by
  intro hn;refine dR hq λp x=>?_;obtain⟨k,hk,rfl⟩:=waa x
  simp_all[xB]
 generalize F:ie l i h c.Def rec=V at *;have w:∀j (hj:j<q.length),(∀k,k<j->(match q[k]? with|some p=>if¬(V p.From).2=0 then some (V p.From).2 else none|none=>(none:Option Int))=none)->
  (-1000000000000000<=(V q[j].From).1.N/\(V q[j].From).1.N<=1000000000000000\/¬(V q[j].From).2=0):=by
  intro j hj _;by_cases o:(V q[j].From).2=0
  .left;have:=xB H rec q[j].From (by simp_all)
   simp_all
  omega
 have e1:ea (zi l h c q rec) (0,0,0)=some (fi (Av (λd=>(V d).1.N) q,Ur q) (ff (λj=>(match q[j]? with|some p=>if¬(V p.From).2=0 then some (V p.From).2 else none|none=>(none:Option Int)).map λe=>((0:Int),e)) q.length)):=by
  refine kh (step:=zi l h c q rec) (λj=>(Av (λd=>(V d).1.N) (q.take j),Ur (q.take j),(j:Int))) _ q.length _ (λj hj hn=>?_) (λ_=>?_) rfl
  .have t:∀k,k<j->(match q[k]? with|some p=>if¬(V p.From).2=0 then some (V p.From).2 else none|none=>(none:Option Int))=none:=λk hk=>by
    simp_all
   obtain⟨s1,s2,s3⟩:=m j hj t;have hm:=GI hq _ (taa hj);obtain⟨z,G,E⟩:=US H rec q[j].From;rw[F]at E;have hb:=w j hj t;unfold zi;dsimp only;rw[if_pos (by omega),Ea hj,kaa,G,kaa,naa hj];dsimp only;rcases E with⟨u,A⟩|⟨u,p,A,D,y4⟩
   .rw[if_pos u,A,if_pos u];rfl
   .rw[if_neg (saa.2 u),A,kaa];have yN:(V q[j].From).1=p.1:=by rw[D]
    have yC:(V q[j].From).2=p.2.2.Code:=by rw[D]
    by_cases o:p.2.2.Code=0
    .rw[if_neg (saa.2 o),yC,if_neg (saa.2 o)];have v:-1000000000000000<=p.1.N/\p.1.N<=1000000000000000:=by
      simp_all
     have y:=mulb (n:=p.1.N) (k:=q[j].To-q[j].From) (B:=1000000000000000) v (by omega);rw[show((1000000000000000:Nat):Int)=1000000000000000 from rfl]at y;rw[wid (n:=q[j].To-q[j].From) (by omega) (by omega),wid (n:=p.1.N*(q[j].To-q[j].From)) (by omega) (by omega),wid (by omega) (by omega),wid (by omega) (by omega),va (by omega),Raa,naa hj];simp only[Pab,WW,LU,yN];rfl
    .rw[if_pos o,yC,if_pos o];rfl
  simp_all[zi]
 have s:∀{ρ:Type} (g:Int->ρ),ff (λj=>(match q[j]? with|some p=>if¬(V p.From).2=0 then some (V p.From).2 else none|none=>(none:Option Int)).map g) q.length=(ff (λj=>match q[j]? with|some p=>if¬(V p.From).2=0 then some (V p.From).2 else none|none=>(none:Option Int)) q.length).map g:=λg=>ff_map g;unfold Nn zA;rw[e1,s];obtain⟨d1,d2⟩:=Nq hq
 cases hf:ff (λj=>match q[j]? with|some p=>if¬(V p.From).2=0 then some (V p.From).2 else none|none=>(none:Option Int)) q.length with
 |some e=>rfl
 |none=>
  have hw:=f (sb.1 hf);simp only[Option.map_none,mQ,kaa];rw[rk];simp only[kaa];have hr:=H.cf.r
  grind[JR]
noncomputable def yO(l:GLaw) (h:GHousehold) (rec:Int):List Int:=wg ((wg (ends (aI rec h.Facts))).filter Jp++(wg (ends (yx l.Tables++vx l.Scopes))).filter Jp)
noncomputable def oQ(l:GLaw) (h:GHousehold) (m rec:Int):List GDateRange:=vy (Tc m).1.To (Tc m).1.From ((yO l h rec).filter (inside (Tc m).1))
theorem IS(hm:(Tc m).2=0):(Tc m).1.From<(Tc m).1.To/\(Tc m).1.To-(Tc m).1.From<=31/\0<=m/\m<=3599:=by
 grind[Tc,Tl]
theorem Oz(hl:LawOk l) (rL:∀x∈l.Scopes,x.Rules.length<=64) (hh:h.Facts.length<=1048576) (hc:c.Calendar.Holidays.length<=1048576) :
 ∃b,qc l h c=some b/\(b=true->∃i,Ctx l h c i):=by
 obtain⟨n,e⟩:=dM hl hc h.Scope;unfold qc;rw[e,Sc l h hl.ns];simp only[kaa];by_cases d:n=0
 .rw[if_neg (saa.2 d)];refine⟨_,rfl,λhb=>?_⟩;subst d;obtain⟨i,hi,a⟩:=HY hl e;exact⟨i,hl,rL,a,by simp_all,hi⟩
 simp_all
noncomputable def fv(l:GLaw) (h:GHousehold) (c:GPayConfig) (m rec:Int):GAward:=
 if¬(Tc m).2=0 then⟨m,0,3⟩else if(qc l h c).getD false=false then⟨m,0,1⟩else
 ⟨m,(zA (ie l h.Scope.toNat h c.Def rec) c.Rounding (oQ l h m rec)).1,(zA (ie l h.Scope.toNat h c.Def rec) c.Rounding (oQ l h m rec)).2⟩
theorem y8(rec:Int) (hl:FewR l) (hh:h.Facts.length<=64):Rb l h rec=some (yO l h rec)/\(yO l h rec).Pairwise (·<·)/\(yO l h rec).length<=65536/\
 ∀x,x∈yO l h rec↔(x∈ends (aI rec h.Facts)/\Jp x=true)\/(x∈ends (yx l.Tables++vx l.Scopes)/\Jp x=true):=by
 have k1:=qz (l:=h.Facts) rec (by omega);have k2:=Qv hl;have n1:=cab Jp (wg (ends (aI rec h.Facts)));have n2:=Nv (ends (aI rec h.Facts));have n3:=Vr (aI rec h.Facts);have n4:=EK rec h.Facts;have m1:=cab Jp (wg (ends (yx l.Tables++vx l.Scopes)));have m2:=Nv (ends (yx l.Tables++vx l.Scopes));have m3:=Vr (yx l.Tables++vx l.Scopes);have m4:=OB hl.t;have m5:=IB hl.s;have m6:=hl.nt;have m7:=hl.ns;rw[Faa]at m3;have hcd:Rb l h rec=some (yO l h rec):=by
  grind[Rb,yO,lst,GY,oT]
 grind[yO,Ig]
theorem QC(hm:(Tc m).2=0) (hl:FewR l) (a:h.Facts.length<=64):Fu (Tc m).1.From (oQ l h m rec) (Tc m).1.To/\(oQ l h m rec).length<=65537:=by
 obtain⟨-,h2,h3,-⟩:=y8 (l:=l) (h:=h) rec hl a;have hr:=TC hm
 grind[inside,oQ,mD,sJ]
theorem pc_few1(hm:(Tc m).2=0) (hl:FewR l) (d:h.Facts.length<=64):(oQ l h m rec).length<=65536:=by
 obtain⟨c,h2⟩:=QC (rec:=rec) hm hl d;have hr:=TC hm;have:∀{a b:Int} {q:List GDateRange},Fu a q b->(q.length:Int)<=b-a:=by
  intro a b q
  induction q generalizing a with
  |nil=>intro h;simp only[Fu]at h;simp_all
  |cons p q ih=>
   intro h;obtain⟨e1,e2,e3⟩:=h
   grind
 have h4:=this c;have h5:(Tc m).1.To-(Tc m).1.From<=31:=by
  unfold Tc at hm⊢;split at hm
  .rename_i hc;rw[if_pos hc];have:=um (y:=1900+((m.toNat / 12:Nat):Int)) (m:=((m.toNat % 12:Nat):Int)+1)
   grind
  omega
 omega
theorem fW:(Tc m).2=0↔0<=m/\m<=3599:=by
 grind[Tc]
theorem Gu(hl:LawOk l) (d:FewR l) (g:h.Facts.length<=64) (hc:c.Calendar.Holidays.length<=1048576) {a:Int}(hab:0<=a/\a<=b/\b<=3600/\b-a<=120) (rec:Int) :
 zb l h c a b rec=some ((xaa (b-a).toNat).map λ(j:Nat)=>fv l h c (a+j) rec):=by
 obtain⟨v,o,t⟩:=Oz hl (λx hx=>Qab (d.s x hx) (by decide)) (h:=h) (by omega) hc;obtain⟨n,hn⟩:∃n,(b-a).toNat=n:=⟨_,rfl⟩;unfold zb;rw[if_pos (by omega),if_pos (by omega),if_pos (by omega),wid (n:=b-a) (by omega) (by omega),kaa,if_neg (by simp_all)];have k:py 24 (GAward.mk 0 0 0) 0 (b-a)=some []:=by
  grind[py]
 rw[k,kaa,o,kaa];obtain⟨d1,d2,p,-⟩:=y8 (l:=l) (h:=h) rec d g;have f:(if v=true then(Rb l h rec).bind λu=>some (true,u)else some (false,([]:List Int)))=some (v,if v=true then yO l h rec else []):=by
  grind
 rw[f,kaa];dsimp only;have hlp:ea (Wf l h c b rec (if v=true then yO l h rec else [])) (([]:List GAward),v,a)=some (.inl ((xaa n).map λ(j:Nat)=>fv l h c (a+j) rec)):=by
  refine Od (λj=>((xaa j).map λ(j:Nat)=>fv l h c (a+j) rec,v,a+(j:Int))) n _ (λj hj=>?_) ?_ (by simp)
  .have hm:(Tc (a+j)).2=0:=fW.2 (by omega);have hr:=TC hm;obtain⟨q,r,q4,q5⟩:=IS hm;unfold Wf;dsimp only;rw[if_pos (by omega),gI,kaa,if_neg (saa.2 hm)];have hw:aa .i64 (a+(j:Int)+1)=a+((j+1:Nat):Int):=by grind[wid]
   have hone:(if v=true then(On (Tc (a+j)).1 (if v=true then yO l h rec else [])).bind λm=>(Nn l h c m rec).bind λe=>some (true,e.1,e.2)else some (false,(0:Int),(1:Int)))=some (v,(fv l h c (a+j) rec).Cents,(fv l h c (a+j) rec).Code):=by
    unfold fv;rw[if_neg (saa.2 hm),o,Nab]
    cases v with
    |false=>rfl
    |true=>
     obtain⟨i,H⟩:=t rfl;have hi:h.Scope.toNat=i:=by have:=H.sc;omega
     obtain⟨c1,-⟩:=QC (rec:=rec) hm d g;have e1:=UX H c1 ⟨q,r⟩ (pc_few1 hm d g) rec;rw[if_pos rfl,if_pos rfl,if_neg (by simp),mF d2 p hr,kaa,hi];rw[show vy (Tc (a+j)).1.To (Tc (a+j)).1.From ((yO l h rec).filter (inside (Tc (a+j)).1))=oQ l h (a+j) rec from rfl,e1];rfl
   grind[fv,Kh,ead]
  grind[Wf]
 simp_all
theorem Kq:(fv l h c m rec).Month=m:=by
 grind[fv]
theorem gM{w D mode L U:Int}(hD:1<=D/\D<=31) (hm:0<=mode/\mode<=5) (hw:-31000000000000000<=w/\w<=31000000000000000) (a:L*D<=w) (hU:w<=U*D):L<=(JR w D mode).1/\(JR w D mode).1<=U:=by
 have e:(JR w D mode).1=lI mode (w / D) (w % D) D:=by
  obtain⟨d,rfl⟩:=Eab (show 0<=D by omega);unfold JR;rw[if_neg (saa.2 hm),if_neg (by omega),if_neg (by omega)]
  grind[lA]
 rw[e];have hr:=uQ mode (w / D) (w % D) D;have hr0:=Int.emod_nonneg w (show D≠0 by omega);have hdm:=Int.mul_ediv_add_emod w D;constructor
 .have:L<=w / D:=(Int.le_ediv_iff_mul_le (by omega)).2 a;omega
 .have hq:w / D<=U:=by
   have:=Int.ediv_le_ediv (show 0<D by omega) hU
   grind[Int.mul_ediv_cancel]
  rcases Int.lt_or_eq_of_le hq with h|h
  .omega
  .have h0:w % D=0:=by
    grind
   unfold lI;rw[if_neg (by unfold tX;omega)];omega
theorem VB{v:Int->Int}{L U:Int}:∀{a b:Int}{l:List GDateRange},Fu a l b->(∀p∈l,L<=v p.From/\v p.From<=U)->L*Ur l<=Av v l/\Av v l<=U*Ur l
 |a,b,[],h,hv=>by simp[Av,Ur]
 |a,b,p::l,h,hv=>by
  obtain⟨h1,h2,d⟩:=h;have e:=VB d λq hq=>hv q (by grind);have c:=hv p (by simp);have m1:=nac c.1 (show 0<=p.To-p.From by omega);have m2:=nac c.2 (show 0<=p.To-p.From by omega);simp only[Av,Ur,List.map_cons,List.sum_cons]at e⊢
  grind
theorem amt_ok{l:List GDateRange}(h:(zA v r l).2=0):(∀p∈l,(v p.From).2=0)/\(zA v r l).1=max (JR (Av (λd=>(v d).1.N) l) (Ur l) r).1 0:=by
 unfold zA at h⊢;split at h
 .grind[vb]
 .rename_i hf;refine⟨λp a=>?_,rfl⟩;obtain⟨k,hk,rfl⟩:=waa a
  simp_all[sb]
theorem W7{l:List GDateRange}(h:(zA v r l).2≠0):(zA v r l).1=0:=by
 unfold zA at h⊢
 grind
theorem aY(a:(fv l h c m rec).Code=0):(Tc m).2=0/\(qc l h c).getD false=true/\fv l h c m rec=⟨m,(zA (ie l h.Scope.toNat h c.Def rec) c.Rounding (oQ l h m rec)).1,(zA (ie l h.Scope.toNat h c.Def rec) c.Rounding (oQ l h m rec)).2⟩:=by
 unfold fv at a⊢
 grind
end Go.Proofs.Dev
namespace Go.Tm
variable {l:List Int}{k i j n:Nat}
def Cq(l:List Int) (k:Nat):Int:=l.getD k 0
def swp(l:List Int) (i j:Nat):List Int:=(l.set i (Cq l j)).set j (Cq l i)
def Hp(l:List Int) (n:Nat):Prop:=∀k,0<k->k<n->Cq l ((k-1) / 2)<=Cq l k
def HpU(l:List Int) (j:Nat):Prop:=(∀k,0<k->k<l.length->k≠j->Cq l ((k-1) / 2)<=Cq l k)/\(∀k,0<j->0<k->k<l.length->(k-1) / 2=j->Cq l ((j-1) / 2)<=Cq l k)
def HpD(l:List Int) (n i:Nat):Prop:=(∀k,0<k->k<n->(k-1) / 2≠i->Cq l ((k-1) / 2)<=Cq l k)/\(∀k,0<i->0<k->k<n->(k-1) / 2=i->Cq l ((i-1) / 2)<=Cq l k)
theorem Mj(h:k<l.length):Cq l k=l[k]:=by grind[Cq]
theorem MB:(swp l i j).length=l.length:=by simp[swp]
theorem xm(hi:i<l.length) (hj:j<l.length):Cq (swp l i j) k=if k=j then Cq l i else if k=i then Cq l j else Cq l k:=by
 grind[swp,Cq]
theorem Ey(hi:i<l.length) (hj:j<l.length):(swp l i j).Perm l:=by
 grind[swp,Mj]
theorem q6(h:HpU l j) (hj:j=0\/Cq l ((j-1) / 2)<=Cq l j):Hp l l.length:=by
 intro k a b;by_cases hk:k=j
 .grind
 .exact h.1 k a b hk
theorem up_go(h:HpU l j) (hj:0<j) (hl:j<l.length) (hlt:Cq l j<Cq l ((j-1) / 2)):HpU (swp l ((j-1) / 2) j) ((j-1) / 2):=by
 have c:(j-1) / 2<l.length:=by omega
 refine⟨λk b a h2=>?_,λk b a h2 h3=>?_⟩
 .rw[MB]at a;rw[xm c hl,xm c hl];by_cases hk:k=j
  .omega
  .rw[if_neg hk,if_neg h2];by_cases d:(k-1) / 2=j
   .rw[if_pos d];exact h.2 k hj b a d
   .rw[if_neg d];by_cases f:(k-1) / 2=(j-1) / 2
    .rw[if_pos f];have:=h.1 k b a hk
     grind
    .rw[if_neg f];exact h.1 k b a hk
 .rw[MB]at h2;rw[xm c hl,xm c hl];have e:Cq l (((j-1) / 2-1) / 2)<=Cq l ((j-1) / 2):=h.1 _ b c (by omega);rw[if_neg (by omega),if_neg (by omega)];by_cases hk:k=j
  .omega
  .rw[if_neg hk,if_neg (by omega)];have:=h.1 k a h2 hk
   grind
theorem push_U{x:Int}(h:Hp l l.length):HpU (l++[x]) l.length:=by
 refine⟨λk a b h2=>?_,λk a b h2 h3=>?_⟩
 .have hk:k<l.length:=by grind
  have e:∀q,q<l.length->Cq (l++[x]) q=Cq l q:=λq hq=>by grind[Mj]
  rw[e _ (by omega),e _ hk];exact h k a hk
 grind
def CmH(l:List Int) (n i j:Nat):Prop:=0<j/\j<n/\(j-1) / 2=i/\∀k,0<k->k<n->(k-1) / 2=i->Cq l j<=Cq l k
theorem cm_1(a:2*i+1<n) (h:2*i+2<n->Cq l (2*i+1)<=Cq l (2*i+2)):CmH l n i (2*i+1):=by
 refine⟨by omega,a,by omega,λk h0 h2 h3=>?_⟩
 grind
theorem cm_2(a:2*i+2<n) (h:Cq l (2*i+2)<Cq l (2*i+1)):CmH l n i (2*i+2):=by
 refine⟨by omega,a,by omega,λk h0 h2 h3=>?_⟩
 grind
theorem IU(h:HpD l n i) (hn:n<=2*i+1):Hp l n:=λk a b=>h.1 k a b (by omega)
theorem GF(h:HpD l n i) (hc:CmH l n i j) (hle:Cq l i<=Cq l j):Hp l n:=by
 intro k a b;by_cases hk:(k-1) / 2=i
 .have:=hc.2.2.2 k a b hk
  grind
 .exact h.1 k a b hk
theorem fK(h:HpD l n i) (hn:n<=l.length) (hc:CmH l n i j) (hlt:Cq l j<Cq l i):HpD (swp l i j) n j:=by
 obtain⟨c0,c1,c2,c3⟩:=hc;have hi:i<l.length:=by omega
 have hj:j<l.length:=by omega
 refine⟨λk b c h2=>?_,λk b c h2 h3=>?_⟩
 .rw[xm hi hj,xm hi hj,if_neg h2];by_cases hk:k=j
  .omega
  .rw[if_neg hk];by_cases a:k=i
   .subst a;rw[if_neg (by omega),if_pos rfl];exact h.2 j b c0 c1 c2
   .rw[if_neg a];by_cases d:(k-1) / 2=i
    .simp_all
    .rw[if_neg d];exact h.1 k b c d
 .rw[xm hi hj,xm hi hj,if_neg (by omega),if_pos c2,if_neg (by omega),if_neg (by omega)];have:=h.1 k c h2 (by omega)
  simp_all
theorem pop_D(h:Hp l l.length) (hl:l.length=n+1):HpD (swp l 0 n) n 0:=by
 refine⟨λk a h1 h2=>?_,λk a=>absurd a (by omega)⟩;rw[xm (by omega) (by omega),xm (by omega) (by omega),if_neg (by omega),if_neg h2,if_neg (by omega),if_neg (by omega)];exact h k a (by omega)
theorem hp_min(h:Hp l n):∀k,k<n->Cq l 0<=Cq l k:=by
 intro k
 induction k using Nat.strongRecOn with
 |ind k a=>
  intro hk;by_cases h0:k=0
  .simp_all
  .have h1:=a ((k-1) / 2) (by omega) (by omega);have h2:=h k (by omega) hk;omega
theorem X9(h:Hp l n) (hn:n<=l.length):Hp (l.take n) (l.take n).length:=by
 intro k a b;rw[iab]at b;have e:∀q,q<n->Cq (l.take n) q=Cq l q:=λq hq=>by
  grind[Mj]
 rw[e _ (by omega),e _ (by omega)];exact h k a (by omega)
end Go.Tm
namespace Go.Proofs.Dev
open Go Go.Tm
variable {d i j k e:Nat}{x:Int}
structure GOk (g:List (List Int)):Prop where
 len:g.length<=1048576
 inr:∀l∈g,∀e∈l,0<=e/\e<g.length
 nd:∀l∈g,l.Nodup
theorem NC:∀{n:Nat}{l:List Int},l.Nodup->(∀x∈l,0<=x/\x<(n:Int))->l.length<=n
 |0,l,_,h=>by
  cases l with
  |nil=>simp
  |cons x l=>grind[rad]
 |n+1,l,hd,h=>by
  by_cases hm:(n:Int)∈l
  .have h1:=NC (n:=n) (l:=l.erase n) (hd.erase _) (λx hx=>by
    grind)
   simp_all
  .have:=NC (n:=n) (l:=l) hd (λx hx=>by
    grind)
   omega
def rh(g:List (List Int)) (i d:Nat):List Int:=((xaa i).filter λe=>(g.getD e []).contains (d:Int)).map λ(e:Nat)=>(e:Int)
def Qq(g:List (List Int)) (i j d:Nat):List Int:=rh g i d++if((g.getD i []).take j).contains (d:Int)then [(i:Int)]else []
theorem EU{g:List (List Int)}:rh g 0 d=[]:=rfl
theorem FU{g:List (List Int)}:Qq g i 0 d=rh g i d:=by simp[Qq]
theorem DU{g:List (List Int)}:rh g (i+1) d=Qq g i (g.getD i []).length d:=by
 grind[rh,Qq,ead]
theorem JI{g:List (List Int)}(hj:j<(g.getD i []).length) (hnd:(g.getD i []).Nodup):Qq g i (j+1) d=if(g.getD i [])[j]=(d:Int)then Qq g i j d++[(i:Int)]else Qq g i j d:=by
 unfold Qq;rw[Raa,naa hj,Pab];by_cases h:(g.getD i [])[j]=(d:Int)
 .rw[if_pos h];have h1:((g.getD i []).take j++[(g.getD i [])[j]]).contains (d:Int)=true:=bab.2 (Saa.2 (.inr (by simp_all)));have h2:((g.getD i []).take j).contains (d:Int)=false:=by
   rw[←lad,bab]
   grind[waa,Iab]
  simp_all
 grind
theorem EF{g:List (List Int)}:(rh g i d).length<=i:=by
 grind[rh]
theorem SY{g:List (List Int)}:(Qq g i j d).length<=i+1:=by
 grind[Qq,EF]
def tQ(g:List (List Int)) (i:Nat):List Int:=((xaa i).filter λe=>(g.getD e []).isEmpty).map λ(e:Nat)=>(e:Int)
theorem AN{g:List (List Int)}:tQ g (i+1)=if(g.getD i [])=[]then tQ g i++[(i:Int)]else tQ g i:=by
 grind[tQ,ead]
theorem rd0_len{g:List (List Int)}:(tQ g i).length<=i:=by
 grind[tQ]
def ZA(g:List (List Int)) (i:Nat):List Int:=(xaa g.length).map λe=>if e<i then((g.getD e []).length:Int)else 0
theorem AV{g:List (List Int)}:ZA g 0=oaa g.length 0:=by
 unfold ZA;apply fac<;>simp
theorem zV{g:List (List Int)}(hi:i<g.length):(ZA g i).set i ((g.getD i []).length:Int)=ZA g (i+1):=by
 unfold ZA;apply fac
 all_goals grind
def XD(g:List (List Int)) (out:List Int) (e:Nat):Int:=(((g.getD e []).filter λd=>!out.contains d).length:Int)
def NM(g:List (List Int)) (out:List Int):List Int:=(xaa g.length).map λe=>XD g out e
def YS(g:List (List Int)) (out:List Int):List Int:=((xaa g.length).filter (BN g out)).map λ(d:Nat)=>(d:Int)
structure J2 (g:List (List Int)) (out l:List Int):Prop where
 nd:out.Nodup
 inr:∀x∈out,0<=x/\x<(g.length:Int)
 zY:∀d:Nat,(d:Int)∈out->∀e∈g.getD d [],e∈out
 perm:l.Perm (YS g out)
 ord:Uu g (g.length-out.length) out=wv g
variable {g:List (List Int)}{out l:List Int}
theorem JE:x∈YS g out↔∃d:Nat,x=d/\d<g.length/\(d:Int)∉out/\∀e∈g.getD d [],e∈out:=by
 unfold YS;rw[Paa];constructor
 .rintro⟨d,hd,rfl⟩;rw[hac,Eac]at hd;obtain⟨a,h2⟩:=hd;unfold BN at h2
  grind
 .rintro⟨d,rfl,a,h2,h3⟩;refine⟨d,?_,rfl⟩
  simp_all[BN]
theorem M3:(YS g out).Nodup:=by
 grind[YS,Uad,vad]
theorem j2_0(h:l.Perm (tQ g g.length)):J2 g [] l:=by
 refine⟨List.nodup_nil,λx h=>(dae h).elim,λd h=>(dae h).elim,?_,by rw[List.length_nil,Nat.sub_zero];rfl⟩;have:tQ g g.length=YS g []:=by
  unfold tQ YS;congr 1;refine Vad λd _=>?_;unfold BN;cases hq:g.getD d []<;>simp
 simp_all
theorem indO_0:ZA g g.length=NM g []:=by
 unfold ZA NM;refine Hab λe he=>?_;rw[if_pos (Eac.1 he)]
 grind[XD,List.filter_eq_self]
theorem j2_end(h:J2 g out []):wv g=if out.length<g.length then([],9)else(out,0):=by
 rw[←h.ord];have hl:out.length<=g.length:=NC h.nd h.inr;have he:YS g out=[]:=List.Perm.eq_nil (h.perm.symm);split
 .rename_i hlt;obtain⟨k,hk⟩:∃k,g.length-out.length=k+1:=⟨g.length-out.length-1,by omega⟩;rw[hk];unfold Uu;have hf:(xaa g.length).find? (BN g out)=none:=by
   rw[List.find?_eq_none];intro d hd hr;have:(d:Int)∈YS g out:=by
    unfold YS
    grind
   simp_all
  rw[hf]
 .rw[show g.length-out.length=0 by omega];rfl
def qx(g:List (List Int)) (out:List Int) (d k:Nat):List Int:=(xaa g.length).map λe=>XD g out e-if((rh g g.length d).take k).contains (e:Int)then 1 else 0
def qB(g:List (List Int)) (out:List Int) (d k:Nat):List Int:=((rh g g.length d).take k).filter λe=>XD g out e.toNat==1
theorem my:x∈rh g g.length d↔∃e:Nat,x=e/\e<g.length/\(d:Int)∈g.getD e []:=by
 unfold rh
 grind
theorem FR:(rh g g.length d).Nodup:=by
 grind[rh,Uad,vad]
theorem indK_0:qx g out d 0=NM g out:=by
 grind[qx,NM]
theorem F5(hnd:l.Nodup) (hk:k<l.length):(l.take k).contains l[k]=false:=by
 rw[←lad,bab]
 grind[waa,Iab]
theorem PZ(hk:k<(rh g g.length d).length) (he:(rh g g.length d)[k]=(e:Int)) (hl:e<g.length):(qx g out d k)[e]?=some (XD g out e):=by
 grind[qx,F5,FR]
theorem ZI(hk:k<(rh g g.length d).length) (he:(rh g g.length d)[k]=(e:Int)):(qx g out d k).set e (XD g out e-1)=qx g out d (k+1):=by
 unfold qx;apply fac
 .simp
 .intro q h1 h2;rw[List.getElem_set];simp only[aac,Vac];rw[Raa,naa hk,Pab,he]
  grind
theorem newK_0:qB g out d 0=[]:=rfl
theorem mJ(hk:k<(rh g g.length d).length) (he:(rh g g.length d)[k]=(e:Int)):qB g out d (k+1)=if XD g out e=1 then qB g out d k++[(e:Int)]else qB g out d k:=by
 unfold qB;rw[Raa,naa hk,Pab,he,Oab]
 grind
theorem F1:(qB g out d k).length<=g.length:=by
 grind[qB,EF]
theorem gmem(h:e<g.length):g.getD e []∈g:=by
 simp_all
theorem xF(b:GOk g) (he:e<g.length) (hd:(d:Int)∉out):XD g (out++[(d:Int)]) e=XD g out e-if(rh g g.length d).contains (e:Int)then 1 else 0:=by
 unfold XD;have hn:=b.nd _ (gmem he);have hc:(rh g g.length d).contains (e:Int)=(g.getD e []).contains (d:Int):=by
  rw[oad,bab,bab,my]
  grind
 rw[hc];generalize g.getD e []=l at hn
 induction l with
 |nil=>rfl
 |cons a l ih=>
  grind
theorem BY(h:∀q∈g.getD e [],q∈out):XD g out e=0:=by
 grind[XD,Uac]
theorem uU(h:XD g out e=0):∀q∈g.getD e [],q∈out:=by
 grind[XD,Laa,Uac]
theorem j2_pop(A:GOk g) {l':List Int}(h:J2 g out l) (C:(x::l').Perm l) (hmin:∀y∈l',x<=y) :
 ∃d:Nat,x=d/\d<g.length/\qx g out d (rh g g.length d).length=NM g (out++[x])/\out.length<g.length/\∀n,n.Perm (l'++qB g out d (rh g g.length d).length)->J2 g (out++[x]) n:=by
 have s:=C.trans h.perm;obtain⟨d,rfl,u,m,hde⟩:=JE.1 (s.mem_iff.1 (rad ..));have i:(out++[(d:Int)]).Nodup:=by
  rw[wad];refine⟨h.nd,by simp,λa ha b hb=>?_⟩
  grind
 have f:∀x∈out++[(d:Int)],0<=x/\x<(g.length:Int):=λx hx=>by
  rcases Saa.1 hx with c|c
  .exact h.inr x c
  simp_all
 have r:out.length<g.length:=by
  have:=NC i f
  grind
 have w:(d:Int)∉l'/\l'.Nodup:=List.nodup_cons.1 ((s.nodup_iff).2 M3);refine⟨d,rfl,u,?_,r,λn p=>⟨i,f,?_,?_,?_⟩⟩
 .simp_all[qx,NM,xF]
 .intro q hq e he;rcases Saa.1 hq with c|c
  .exact Fad _ (h.zY q c e he)
  grind
 .refine p.trans ?_;have v:(qB g out d (rh g g.length d).length).Nodup:=by
   grind[qB,FR]
  have j:∀y,y∈qB g out d (rh g g.length d).length↔∃e:Nat,y=e/\e<g.length/\(d:Int)∈g.getD e []/\XD g out e=1:=by
   intro y;unfold qB;rw[List.take_length,hac,my]
   grind
  have D:∀y,y∈l'↔y∈YS g out/\y≠d:=by
   grind
  rw[List.perm_ext_iff_of_nodup ?_ M3]
  .intro y;rw[Saa,D,j,JE,JE];constructor
   .rintro(⟨⟨e,rfl,c,h2,o⟩,B⟩|⟨e,rfl,c,h2,o⟩)
    .grind
    .refine⟨e,rfl,c,λhm=>?_,?_⟩
     .rcases Saa.1 hm with t|t
      .exact m (h.zY e t d h2)
      grind
     .refine uU ?_;rw[xF A c m,if_pos (bab.2 (my.2 ⟨e,rfl,c,h2⟩)),o];rfl
   .rintro⟨e,rfl,c,h2,o⟩;have B:(e:Int)∉out:=λhm=>h2 (Fad _ hm);have t:(e:Int)≠d:=λhm=>h2 (List.mem_append_right _ (oab.2 hm));by_cases z:(d:Int)∈g.getD e []
    .refine .inr ⟨e,rfl,c,z,?_⟩;have:=BY o;rw[xF A c m,if_pos (bab.2 (my.2 ⟨e,rfl,c,z⟩))]at this;omega
    grind
  .rw[wad];refine⟨w.2,v,λa ha b hb e=>?_⟩;subst e;obtain⟨e,rfl,c,h2,o⟩:=(j a).1 hb
   grind[JE]
 .rw[←h.ord];obtain⟨k,hk⟩:∃k,g.length-out.length=k+1:=⟨g.length-out.length-1,by omega⟩;rw[hk,Faa,Fab,show g.length-(out.length+1)=k by omega];have hf:(xaa g.length).find? (BN g out)=some d:=by
   have hr:∀e:Nat,e<g.length->(BN g out e=true↔(e:Int)∈YS g out):=by
    intro e he;unfold YS
    grind
   rw[List.find?_range_eq_some]
   grind
  rw[Uu,hf]
end Go.Proofs.Dev
set_option maxRecDepth 100000
namespace Go.Proofs.Dev
open Go Go.Tm
noncomputable def Bh(j:List Int):((List Bool)×(List Int)×Int)->Option (Ex ((List Bool)×(List Int)×Int) ((List Bool)×(List Int)) Unit):=λ(c,f,a)=>
 if a<(j.length:Int)then
  laa (α:=((List Bool)×(List Int))) (
   (idx j a).bind λb=>
   (idx c b).bind λg=>
   if g=false then
    (put c b true).bind λh=>
    (app 8 f ([b])).bind λi=>
    some (h,i)
   else
   some (c,f)) λ(d,e)=>
  some (Ex.go (d,e,(aa .i64 (a+1))))
 else
 some (Ex.brk (c,f))
noncomputable def Xf(t0:(List (List Int))):((List Bool)×(List Int))->Option (Ex ((List Bool)×(List Int)) (List Bool) Unit):=λ(s2,c)=>
 if 0<(c.length:Int)then
  (idx c 0).bind λd=>
  (oA c 1).bind λe=>
  (idx t0 d).bind λf=>
  (ea (Bh f) (s2,e,0)).bind λy=>match y with
  |.inr _=>none
  |.inl (a,b)=>
  some (Ex.go (a,b))
 else
 some (Ex.brk s2)
noncomputable def Ch(c:List Bool):((List Int)×Int)->Option (Ex ((List Int)×Int) (List Int) Unit):=λ(b,a)=>
 if a<(c.length:Int)then
  laa (α:=(List Int)) (
   (idx c a).bind λe=>
   if e=true then
    (app 8 b ([a])).bind λf=>
    some f
   else
   some b) λd=>
  some (Ex.go (d,(aa .i64 (a+1))))
 else
 some (Ex.brk b)
noncomputable def Ar(t0:(List (List Int))) (t1:Int):Option (List Int):=
 (py 1 false (t0.length:Int) (t0.length:Int)).bind λc=>
 (ea (Xf t0) (c,[t1])).bind λy=>match y with
 |.inr _=>none
 |.inl a=>
 (ea (Ch a) (([]:List Int),0)).bind λy=>match y with
 |.inr _=>none
 |.inl b=>
 some b
def visit(p:List Bool×List Int) (e:Int):List Bool×List Int:=if p.1[e.toNat]?=some true then p else(p.1.set e.toNat true,p.2++[e])
def Sn(s:List Bool) (b:Int):Prop:=s[b.toNat]?=some true
instance (s:List Bool) (b:Int):Decidable (Sn s b):=by unfold Sn;infer_instance
def cF(s:List Bool):Nat:=s.count false
theorem jY:∀{s:List Bool}{i:Nat},s[i]?=some false->cF (s.set i true)+1=cF s
 |[],i,h=>by simp at h
 |b::s,0,h=>by simp at h;subst h;simp[cF]
 |b::s,i+1,h=>by
  have:=jY (s:=s) (i:=i) (by simpa using h);unfold cF at this⊢;simp only[List.set_cons_succ,List.count_cons];omega
theorem cF_le(s:List Bool):cF s<=s.length:=List.count_le_length
structure Ok (n:Nat) (p:List Bool×List Int):Prop where
 len:p.1.length=n
 q:∀x∈p.2,0<=x/\x<n
 m:p.2.length+cF p.1<=n+1
theorem sO{n:Nat}{p:List Bool×List Int}{e:Int}(h:Ok n p) (f:0<=e) (g:e<n) :
 Ok n (visit p e)/\(visit p e).2.length+cF (visit p e).1=p.2.length+cF p.1/\(∀b,0<=b->(Sn (visit p e).1 b↔Sn p.1 b\/b=e))/\(∀x,x∈(visit p e).2↔x∈p.2\/(x=e/\¬Sn p.1 e)):=by
 unfold visit;split
 .rename_i c;refine⟨h,rfl,λb hb=>⟨.inl,λh=>?_⟩,λx=>⟨.inl,λh=>?_⟩⟩
  .rcases h with h|rfl
   .exact h
   .exact c
  .rcases h with h|⟨rfl,h⟩
   .exact h
   .exact(h c).elim
 .rename_i c;have d:e.toNat<p.1.length:=by rw[h.len];omega
  have hf:p.1[e.toNat]?=some false:=by
   rw[naa d]at c⊢
   cases hb:p.1[e.toNat]with
   |true=>rw[hb]at c;exact(c rfl).elim
   |false=>rfl
  have hc:=jY hf;have hm:=h.m;refine⟨⟨by simp[h.len],λx hx=>?_,?_⟩,?_,λb hb=>?_,λx=>?_⟩
  .rcases Saa.1 hx with hx|hx
   .exact h.q x hx
   .rw[oab]at hx;subst hx;exact⟨f,g⟩
  .simp only[Faa,Fab];omega
  .simp only[Faa,Fab];omega
  .unfold Sn;rw[List.getElem?_set];by_cases a:e.toNat=b.toNat
   .rw[if_pos a,if_pos d];exact⟨λ_=>.inr (by omega),λ_=>rfl⟩
   .rw[if_neg a];exact⟨.inl,λh=>h.elim id λh=>(a (by rw[h])).elim⟩
  .rw[Saa,oab];exact⟨λh=>h.imp id λh=>⟨h,c⟩,λh=>h.imp id λh=>h.1⟩
theorem CJ{n:Nat}:∀{l:List Int}{p:List Bool×List Int},Ok n p->(∀e∈l,0<=e/\e<n)->
 Ok n (l.foldl visit p)/\(l.foldl visit p).2.length+cF (l.foldl visit p).1=p.2.length+cF p.1/\(∀b,0<=b->(Sn (l.foldl visit p).1 b↔Sn p.1 b\/b∈l))/\(∀x,x∈(l.foldl visit p).2↔x∈p.2\/(x∈l/\¬Sn p.1 x))
 |[],p,h,_=>by simp[h]
 |e::l,p,h,hl=>by
  obtain⟨i,j⟩:=hl e (by simp);obtain⟨a1,a2,a3,a4⟩:=sO h i j;obtain⟨d,b2,f,g⟩:=CJ a1 (λx hx=>hl x (by simp[hx])) (l:=l);simp only[eab];refine⟨d,by omega,λb hb=>?_,λx=>?_⟩
  .rw[f b hb,a3 b hb,lab];constructor
   .rintro((h|h)|h)
    .exact .inl h
    .exact .inr (.inl h)
    .exact .inr (.inr h)
   .rintro(h|h|h)
    .exact .inl (.inl h)
    .exact .inl (.inr h)
    .exact .inr h
  .rw[g x,a4 x,lab];constructor
   .rintro((h|⟨rfl,h⟩)|⟨h,h'⟩)
    .exact .inl h
    .exact .inr ⟨.inl rfl,h⟩
    .exact .inr ⟨.inr h,λc=>h' ((a3 x (hl x (by simp[h])).1).2 (.inl c))⟩
   .rintro(h|⟨rfl|h,h'⟩)
    .exact .inl (.inl h)
    .exact .inl (.inr ⟨rfl,h'⟩)
    .by_cases a:x=e
     .subst a;exact .inl (.inr ⟨rfl,h'⟩)
     .exact .inr ⟨h,λc=>((a3 x (hl x (by simp[h])).1).1 c).elim h' a⟩
theorem JT{i:Int}(h0:0<=i) (h1:i<9223372036854775807):aa .i64 (i+1)=i+1:=zu ⟨by omega,by omega⟩
theorem L4_eq{n:Nat}(hn:n<=1048576) {l:List Int}(hl:l.length<=1048576) (c:∀e∈l,0<=e/\e<n):∀(k:Nat) {p:List Bool×List Int}{i:Nat},l.length-i=k->Ok n p->
 ea (Bh l) (p.1,p.2,(i:Int))=some (.inl ((l.drop i).foldl visit p))
 |0,p,i,hk,d=>by
  rw[Aac (by omega)];refine Va ?_;unfold Bh;simp only;rw[if_neg (by omega)];rfl
 |k+1,p,i,hk,d=>by
  have hi:i<l.length:=by omega
  obtain⟨f,g⟩:=c l[i] (taa hi);have a:l[i].toNat<p.1.length:=by rw[d.len];omega
  rw[mab hi,eab];have b:Bh l (p.1,p.2,(i:Int))=some (.go ((visit p l[i]).1,(visit p l[i]).2,((i+1:Nat):Int))):=by
   unfold Bh;simp only;rw[if_pos (by omega)];have e1:idx l (i:Int)=some l[i]:=by simp[idx,hi]
   have e2:idx p.1 l[i]=some p.1[l[i].toNat]:=by simp[idx,f,a]
   have e3:aa .i64 ((i:Int)+1)=((i+1:Nat):Int):=by rw[JT (by omega) (by omega)];omega
   rw[e1,kaa,e2,kaa,e3];unfold visit;rw[naa a]
   cases hb:p.1[l[i].toNat]with
   |true=>simp
   |false=>
    have e4:put p.1 l[i] true=some (p.1.set l[i].toNat true):=by simp[put,f,a]
    have e5:app 8 p.2 [l[i]]=some (p.2++[l[i]]):=by
     have hm:=d.m;unfold app;rw[if_pos];simp only[Fab];omega
    rw[if_pos rfl,e4,kaa,e5];simp
  rw[Jc b];exact L4_eq hn hl c k (i:=i+1) (by omega) (sO d f g).1
def Reach1(g:List (List Int)) (a b:Int):Prop:=b=a\/ReachL g a b
structure Bfs (g:List (List Int)) (a:Int) (p:List Bool×List Int):Prop where
 ok:Ok g.length p
 sound:∀b,0<=b->Sn p.1 b->ReachL g a b
 qs:∀x∈p.2,Reach1 g a x
 done:∀b,0<=b->(b=a\/Sn p.1 b)->b∈p.2\/∀l,g[b.toNat]?=some l->∀c∈l,Sn p.1 c
theorem L7_eq{g:List (List Int)}{a:Int}(hn:g.length<=1048576) (y:∀l∈g,l.length<=1048576/\∀e∈l,0<=e/\e<g.length):∀(k:Nat) {p:List Bool×List Int},p.2.length+cF p.1=k->Bfs g a p->
 ∃s,ea (Xf g) p=some (.inl s)/\Bfs g a (s,[]):=by
 intro k
 induction k with
 |zero=>
  intro p hk f;obtain⟨s,q⟩:=p;have:q=[]:=Laa (by dsimp only at hk;omega);subst this;exact⟨s,Va (by simp[Xf]),f⟩
 |succ k z=>
  intro p hk f;obtain⟨s,q⟩:=p
  cases q with
  |nil=>exact⟨s,Va (by simp[Xf]),f⟩
  |cons d q=>
   obtain⟨d0,d1⟩:=f.ok.q d (by simp);have hd:d.toNat<g.length:=by omega
   obtain⟨gl,ge⟩:=y g[d.toNat] (taa hd);have o:Ok g.length (s,q):=⟨f.ok.len,λx hx=>f.ok.q x (by simp[hx]),by have:=f.ok.m;simp only[qaa]at this⊢;omega⟩;obtain⟨A,B,t,w⟩:=CJ o ge (l:=g[d.toNat]);have j:Xf g (s,d::q)=some (.go (g[d.toNat].foldl visit (s,q))):=by
    unfold Xf;simp only;rw[if_pos (by simp)];have e1:idx (d::q) 0=some d:=rfl;have e2:oA (d::q) 1=some q:=by simp[oA]
    have e3:idx g d=some g[d.toNat]:=by simp[idx,d0,hd]
    have e4:=L4_eq hn gl ge _ (p:=(s,q)) (i:=0) rfl o;simp only[List.drop_zero,cae]at e4;rw[e1,kaa,e2,kaa,e3,kaa,e4];rfl
   rw[Jc j];have v:q.length+cF s=k:=by simp only[qaa]at hk;omega
   refine z (by rw[B];exact v) ⟨A,λb hb r=>?_,λx hx=>?_,λb hb u=>?_⟩
   .rcases(t b hb).1 r with h|h
    .exact f.sound b hb h
    .rcases f.qs d (by simp)with rfl|hr
     .exact .one (naa hd) h
     .exact .step hr (naa hd) h
   .rcases(w x).1 hx with h|⟨h,-⟩
    .exact f.qs x (by simp[h])
    .right;rcases f.qs d (by simp)with rfl|hr
     .exact .one (naa hd) h
     .exact .step hr (naa hd) h
   .have up:∀c,0<=c->Sn s c->Sn (g[d.toNat].foldl visit (s,q)).1 c:=λc hc h=>(t c hc).2 (.inl h);by_cases n:b=d
    .subst n;right;intro l hl c hc;rw[naa hd]at hl;injection hl with hl;subst hl;exact(t c (ge c hc).1).2 (.inr hc)
    .have key:(b=a\/Sn s b)\/(b∈g[d.toNat]/\¬Sn s b):=by
      rcases u with h|h
      .exact .inl (.inl h)
      .rcases(t b hb).1 h with h|h
       .exact .inl (.inr h)
       .by_cases r:Sn s b
        .exact .inl (.inr r)
        .exact .inr ⟨h,r⟩
     rcases key with h|h
     .rcases f.done b hb h with h|h
      .rcases lab.1 h with h|h
       .exact(n h).elim
       .exact .inl ((w b).2 (.inl h))
      .right;intro l hl c hc;have hm:l∈g:=Lab hl;exact up c ((y l hm).2 c hc).1 (h l hl c hc)
     .exact .inl ((w b).2 (.inr h))
theorem L6_eq{s:List Bool}(e:s.length<=1048576):∀(k:Nat) {i:Nat},s.length-i=k->i<=s.length->
 ea (Ch s) (((xaa i).map λ(k:Nat)=>(k:Int)).filter (λb=>decide (Sn s b)),(i:Int))=some (.inl (((xaa s.length).map λ(k:Nat)=>(k:Int)).filter λb=>decide (Sn s b)))
 |0,i,hk,hi=>by
  have:i=s.length:=by omega
  subst this;refine Va ?_;unfold Ch;simp
 |k+1,i,hk,hi=>by
  have a:i<s.length:=by omega
  have hlen:(((xaa i).map λ(k:Nat)=>(k:Int)).filter (λb=>decide (Sn s b))).length<=i:=Qab (cab _ _) (by simp);have d:Ch s (((xaa i).map λ(k:Nat)=>(k:Int)).filter (λb=>decide (Sn s b)),(i:Int))=some (.go (((xaa (i+1)).map λ(k:Nat)=>(k:Int)).filter (λb=>decide (Sn s b)),((i+1:Nat):Int))):=by
   unfold Ch;simp only;rw[if_pos (by omega)];have e1:idx s (i:Int)=some s[i]:=by simp[idx,a]
   have e3:aa .i64 ((i:Int)+1)=((i+1:Nat):Int):=by rw[JT (by omega) (by omega)];omega
   rw[e1,kaa,e3,ead,List.map_append,Oab]
   cases hb:s[i]with
   |true=>
    have c:Sn s ((i:Nat):Int):=by unfold Sn;simp[a,hb]
    have e5:app 8 (((xaa i).map λ(k:Nat)=>(k:Int)).filter (λb=>decide (Sn s b))) [(i:Int)]=some (((xaa i).map λ(k:Nat)=>(k:Int)).filter (λb=>decide (Sn s b))++[(i:Int)]):=by
     unfold app;rw[if_pos];simp only[Fab];omega
    rw[if_pos rfl,e5];simp[c]
   |false=>
    have c:¬Sn s ((i:Nat):Int):=by unfold Sn;simp[a,hb]
    rw[if_neg (by simp)];simp[c]
  rw[Jc d];exact L6_eq e k (i:=i+1) (by omega) (by omega)
theorem oW{t0:List (List Int)}{t1:Int}{r:List Int}(h:Ti t0 t1=some r):Ar t0 t1=some r:=by
 unfold Ti at h;split at h
 .rename_i hc;obtain⟨hn,j,l,n⟩:=hc;obtain rfl:=Iaa h;unfold Ar;have e1:py 1 false (t0.length:Int) (t0.length:Int)=some (oaa t0.length false):=by
   unfold py;rw[if_pos ⟨by omega,by omega,by omega,by simp;omega⟩];simp
  have hb:Bfs t0 t1 (oaa t0.length false,[t1]):=by
   have e:∀b,¬Sn (oaa t0.length false) b:=λb hb=>by
    unfold Sn at hb;rw[List.getElem?_replicate]at hb;split at hb<;>simp at hb
   refine⟨⟨by simp,λx hx=>?_,?_⟩,λb _ f=>(e b f).elim,λx hx=>?_,λb _ f=>?_⟩
   .rw[oab]at hx;subst hx;exact⟨l,n⟩
   .have:=cF_le (oaa t0.length false);simp only[List.length_replicate,Fab]at this⊢;omega
   .rw[oab]at hx;exact .inl hx
   .rcases f with rfl|f
    .exact .inl (by simp)
    .exact(e b f).elim
  obtain⟨s,e2,hb⟩:=L7_eq hn j _ rfl hb;have d:s.length=t0.length:=hb.ok.len;have e3:=L6_eq (s:=s) (by omega) _ (i:=0) rfl (by omega);simp only[List.range_zero,List.map_nil,List.filter_nil,cae]at e3;rw[e1,kaa,e2,kaa];simp only;rw[e3,kaa];simp only;rw[d];unfold PG;congr 1;apply Vad;intro b g;obtain⟨k,-,rfl⟩:=Paa.1 g;have a:∀b,ReachL t0 t1 b->0<=b/\Sn s b:=by
   intro b hr
   induction hr with
   |one h c=>
    have hm:=Lab h;refine⟨((j _ hm).2 _ c).1,?_⟩;rcases hb.done t1 l (.inl rfl)with h'|h'
    .cases h'
    .exact h' _ h _ c
   |step _ hl hc m=>
    have hm:=Lab hl;refine⟨((j _ hm).2 _ hc).1,?_⟩;rcases hb.done _ m.1 (.inr m.2)with h'|h'
    .cases h'
    .exact h' _ hl _ hc
  exact decide_eq_decide.2 ⟨λh=>hb.sound _ (by omega) h,λh=>(a _ h).2⟩
 .cases h
end Go.Proofs.Dev
set_option maxRecDepth 10000
namespace Go.Proofs.Dev
open Go Go.Tm
def kO:GRule:=GRule.mk (yaa #[98,97,115,101]) 0 (-1) 0 (GDateRange.mk 0 109573) ([]) ([(GNode.mk 7 0)]) (yaa #[])
def Og:GScope:=GScope.mk (yaa #[104,111,117,115,101]) (-1) ([(GField.mk (yaa #[97]) (GType.mk 3 0))]) ([(GField.mk (yaa #[100]) (GType.mk 3 0))]) [kO]
def Yb:GLaw:=GLaw.mk ([]) ([]) [Og]
def Xb:GFact:=GFact.mk 0 (-1) 0 (GValue.mk 3 0 500) (GDateRange.mk 0 109573) 0
def xb(l:List GFact):GHousehold:=GHousehold.mk 0 0 0 l
def Pb:GPayConfig:=GPayConfig.mk 0 0 1 0 0 0 0 (GCalendar.mk 0 ([]))
theorem tiny_sc:qp Yb 0 Og=(0,0):=by
 have hc:ff (zU Og) Og.Defs.length=none:=sb.2 λi hi=>by
  have:i=0:=by grind[Og]
  subst this;unfold zU;rw[if_neg];rw[←KE];have:(oO Og 0 Og.Defs.length).contains 0=false:=by kernel_rfl
  simp_all
 unfold qp;rw[hc];rfl
theorem qA:xp Yb=⟨0,0,0,0⟩:=by
 unfold xp;simp only[show Yb.Enums.length=0 from rfl,show Yb.Tables.length=0 from rfl,show Yb.Scopes.length=1 from rfl,ff];rw[show Yb.Scopes[0]?=some Og from rfl]
 grind[tiny_sc]
theorem TB:EO Yb (xb [Xb])=(0,0):=by kernel_rfl
theorem Xo:LawOk Yb:=by
 have a:ScOk Og:=by constructor<;>simp[Og,kO]
 constructor<;>simp[Yb,a];simp[Og,kO,Kd]
 decide
theorem SB:FewR Yb:=by constructor<;>simp[Yb,Og]
theorem mO:je Pb.Calendar=some true:=by
 unfold je;rw[Va (step:=qd Pb.Calendar) (b:=()) rfl];rfl
theorem lO{l:List GFact}(h:EO Yb (xb l)=(0,0)):qc Yb (xb l) Pb=some true:=by
 unfold qc Fa;rw[ik Xo,Sc _ _ Xo.ns,h,qA,mO];rfl
end Go.Proofs.Dev
