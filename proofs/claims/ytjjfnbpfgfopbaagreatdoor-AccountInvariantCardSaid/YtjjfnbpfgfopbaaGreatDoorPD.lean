/-
  The functions as plain partial functions, and plain lemmas about them: no condition.
-/
import Derived.Test.YtjjfnbpfgfopbaaGreatDoorPC
import Derived.Test.YtjjfnbpfgfopbaaGreatDoorPB
import Derived.Test.YtjjfnbpfgfopbaaGreatDoorPA
import Derived.KernelRfl
open Bool renaming and_eq_true->Caa,eq_iff_iff->gad,false_eq_true->Eaa,not_eq_true->Zac,not_true->Uac,true_eq_false->tab
open ByteArray renaming mk->yaa
open Classical renaming not_not->waa
open Decidable renaming byContradiction->Ead,not_not->Aac
open Int renaming eq_ofNat_of_zero_le->Cab,le_refl->dad,lt_or_gt_of_ne->jae,mul_le_mul_of_nonneg_right->fac,natCast_zero->Rad,reduceBEq->Baa,reduceEq->vaa
open List renaming all_eq_true->Yaa,contains_iff_mem->dab,drop_eq_getElem_cons->mab,drop_eq_nil_of_le->vac,eq_nil_of_length_eq_zero->Qaa,ext_getElem->Yab,filter_append->Jab,filter_congr->Lad,filter_eq_nil_iff->Mac,foldl_cons->gab,getElem?_eq_getElem->qaa,getElem_map->kac,getElem_mem->xaa,getElem_of_mem->Aaa,getElem_range->mae,length_append->Taa,length_cons->uaa,length_eq_zero_iff->Qad,length_filter_le->eab,length_map->lab,length_singleton->Eab,length_take->vab,map_congr_left->Qab,mem_append->bab,mem_append_left->cae,mem_cons->oab,mem_cons_self->jad,mem_filter->hac,mem_map->fab,mem_of_getElem?->Hab,mem_range->Kac,mem_singleton->uab,nodup_append->Nad,not_mem_nil->Sad,pairwise_iff_getElem->Mab,pairwise_lt_range->mad,range->zaa,range_succ->Sac,replicate->raa,take_add_one->Uaa,take_of_length_le->wac
open List.Pairwise renaming imp->Kad
open Nat renaming le_trans->Oab,zero_le->sab
open Option renaming bind->oaa,bind_some->naa,getD_some->Rab,toList_some->Kab
open Option.some renaming inj->Raa
set_option linter.all false
set_option maxRecDepth 10000
set_option maxHeartbeats 1000000
namespace Go.Proofs.Dev
open Go Go.Tm
theorem A7{op:Int}{a b:GValue}(c:op=13\/op=14\/op=15\/op=16):Ra op a b=some (decide
 ((op=13/\b.Kind=2/\(a.Kind=2\/a.Kind=3))\/(op=14/\b.Kind=4/\(a.Kind=3\/a.Kind=4))\/(op=15/\((b.Kind=2/\(a.Kind=2\/a.Kind=3))\/(a.Kind=3/\b.Kind=3)))\/(op=16/\a.Kind=3/\b.Kind=3))):=by
 rcases c with rfl|rfl|rfl|rfl<;>simp only[Ra,vaa,if_true,if_false,naa,Baa,Eaa,false_and,true_and,false_or,or_false]
 .grind
 .grind
 .by_cases g1:b.Kind=2
  .by_cases g2:a.Kind=2<;>by_cases g3:a.Kind=3<;>simp[g1,g2,g3]
  grind
 grind
theorem tR{x y:Int}(hx:-1000000000000000<=x/\x<=1000000000000000) (hy:-1000000000000000<=y/\y<=1000000000000000):Xo x y=some (if(x*y).natAbs<=1000000000000000 then(x*y,0)else(0,3)):=by
 unfold Xo;rw[lD (by omega) (by omega),lD (by omega) (by omega),UO (by omega) (by omega),naa];dsimp only;have hn:x.natAbs*y.natAbs=(x*y).natAbs:=(Int.natAbs_mul x y).symm;have hb:(x*y).natAbs<=1000000000000000*1000000000000000:=by rw[←hn];exact Nat.mul_le_mul (by omega) (by omega)
 rw[hn];obtain⟨p,e⟩:∃p,(x*y).natAbs=p:=⟨_,rfl⟩;rw[e]at hb⊢;have hs:¬(x*y).natAbs=0->(¬(decide (x<0))=(decide (y<0))↔x*y<0):=by
  intro h0;have c:x≠0:=by grind
  have h2:y≠0:=by grind
  rcases jae c with a|a<;>rcases jae h2 with b|b
  .grind
  .have:=Int.mul_neg_of_neg_of_pos a b
   grind
  .have:=Int.mul_neg_of_pos_of_neg a b
   grind
  grind
 by_cases d:p<=1000000000000000
 .rw[if_pos d];have c:p / 18446744073709551616=0:=by omega
  have h2:p % 18446744073709551616=p:=by omega
  rw[c,h2,if_pos (by rfl),naa,if_neg (by grind),wid (n:=(p:Int)) (by omega) (by omega),wid (by omega) (by omega)]
  grind
 grind
theorem BA{op N:Int}{a b:GValue}{env:GEnv}(f:op=13\/op=14\/op=15\/op=16) (ha:Kc a) (hb:Kc b):Ys (Ug ⟨op,N⟩ [a,b] env):=by
 have h1:=ha.range;have h2:=hb.range;have c:qa ⟨op,N⟩ [a,b] env=_:=(SH (by omega)).trans (A7 f);have d:Ea ⟨op,N⟩ [a,b] env=ag ⟨op,N⟩ a b:=by
  rw[QA (by omega)];rcases f with rfl|rfl|rfl|rfl<;>simp only[cc,vaa,Baa,if_true,if_false,Eaa,naa,PG]
 rcases f with rfl|rfl|rfl|rfl
 .simp only[vaa,true_and,false_and,or_false]at c;have hq:ag ⟨13,N⟩ a b=some (⟨a.Kind,0,(if(a.N*b.N).natAbs<=1000000000000000 then(a.N*b.N,(0:Int))else(0,3)).1⟩,(if(a.N*b.N).natAbs<=1000000000000000 then(a.N*b.N,(0:Int))else(0,3)).2):=by
   simp_all[ag,tR]
  grind[Ys.ite]
 .simp only[vaa,true_and,false_and,or_false,false_or]at c;by_cases hc:b.Kind=4/\(a.Kind=3\/a.Kind=4)
  .rw[decide_eq_true hc]at c;rcases hc with⟨c1,c2|c2⟩
   .refine dj (v:=⟨a.Kind,0,(mdS a.N b.N 1000000 N).1⟩) (e:=(mdS a.N b.N 1000000 N).2) c (d.trans ?_)
    simp_all[ag,TI]
   .refine dj (v:=⟨a.Kind,0,(TZ a.N b.N N).1⟩) (e:=(TZ a.N b.N N).2) c (d.trans ?_)
    simp_all[ag,kN]
  grind[Dr]
 .simp only[vaa,true_and,false_and,or_false,false_or]at c;by_cases hc:(b.Kind=2/\(a.Kind=2\/a.Kind=3))\/(a.Kind=3/\b.Kind=3)
  .rw[decide_eq_true hc]at c;rcases hc with⟨c1,c2⟩|⟨c1,c2⟩
   .refine dj (v:=⟨a.Kind,0,(qO a.N b.N N).1⟩) (e:=(qO a.N b.N N).2) c (d.trans ?_)
    simp_all[ag,Oj]
   .refine dj (v:=⟨4,0,(frS a.N b.N N).1⟩) (e:=(frS a.N b.N N).2) c (d.trans ?_)
    simp_all[ag,vB]
  grind[Dr]
 .simp only[vaa,true_and,false_and,or_false,false_or]at c;refine Ys.ite (v:=⟨a.Kind,0,(rtS a.N b.N N).1⟩) (e:=(rtS a.N b.N N).2) c λhc=>d.trans ?_
  simp_all[ag,NC]
theorem iR{op:Int}(hop:36<=op/\op<=39) (t:GType):Ff op t=some (decide (t.Enum=0/\((op=36/\(t.Kind=2\/t.Kind=3))\/(op=39/\2<=t.Kind/\t.Kind<=5)\/(op≠36/\op≠39/\t.Kind=1)))):=by
 unfold Ff;simp only[HO,ai];by_cases hE:t.Enum=0
 case neg=>grind
 have hk:(2<=t.Kind/\t.Kind<=5)↔((2<=t.Kind/\t.Kind<=4)\/t.Kind=5):=by omega
 have:op=36\/op=37\/op=38\/op=39:=by omega
 rcases this with rfl|rfl|rfl|rfl
 all_goals grind
theorem IE{σ β ρ:Type}{s:σ->Option (Ex σ β ρ)}(I:σ->Prop) (a:σ->Nat) (QB:β->Prop) (QR:ρ->Prop)
 (h:∀x,I x->(∃d,s x=some (.go d)/\I d/\a d<a x)\/(∃b,s x=some (.brk b)/\QB b)\/∃b,s x=some (.ret b)/\QR b)
 {x:σ} (hi:I x):(∃b,ja s x=some (.inl b)/\QB b)\/∃b,ja s x=some (.inr b)/\QR b:=by
 have:=dV (s1:=s) (s2:=s) (λx y=>x=y/\I x) a (λb c=>b=c/\QB b) (λb c=>b=c/\QR b) (by
  grind) (a x) x x (Nat.le_refl _) ⟨rfl,hi⟩
 grind
theorem TR{op N:Int}{env:GEnv}(he:EnvOk env) (g:36<=op/\op<=39) (hf:Jz ⟨op,N⟩ env=true):Ys (Ug ⟨op,N⟩ [] env):=by
 have a:0<=N/\N<(env.MemberTypes.length:Int):=by
  grind[Jz]
 have hi:idx env.MemberTypes N=some (env.MemberTypes[N.toNat]'(by omega)):=pn a.1 a.2;generalize env.MemberTypes[N.toNat]'(by omega)=t at hi;have hal:qa ⟨op,N⟩ [] env=Ff op t:=by
  unfold qa
  grind
 have hcm:Ea ⟨op,N⟩ [] env=lh ⟨op,N⟩ env:=by
  unfold Ea;dsimp only;have w:(op==5)=false:=by grind
  rw[if_neg (by omega),if_neg (by omega),if_neg (by omega),if_neg (by omega),w,naa,if_neg (by simp),if_neg (by omega),if_neg (by omega),if_neg (by omega),if_neg (by omega),if_neg (by omega),OZ,decide_eq_true g,if_pos rfl,PG]
 have hov:∃p,lh ⟨op,N⟩ env=some p:=by
  unfold lh;dsimp only;rw[hi,naa];obtain⟨j,hj⟩:∃j,(if op=37 then some (1:Int)else some 0)=some j:=by split<;>exact⟨_,rfl⟩
  obtain⟨b,hb⟩:∃b,(if op=39 then some ((env.Members.length:Int)==0)else some false)=some b:=by split<;>exact⟨_,rfl⟩
  rw[hj,naa,hb,naa]
  cases b with
  |true=>simp
  |false=>
   rw[if_neg (by simp)];have f:=IE (s:=pj ⟨op,N⟩ env t) (λx=>0<=x.2.2.2/\x.2.2.2<=(env.Members.length:Int)) (λx=>(env.Members.length-x.2.2.2).toNat) (λ_=>True) (λ_=>True) (by
    rintro⟨C,D,k,d⟩ ⟨g1,g2⟩;dsimp only at g1 g2;unfold pj;dsimp only;by_cases c:d<(env.Members.length:Int)
    case neg=>rw[if_neg c];simp
    rw[if_pos c,pn g1 c];simp only[naa];generalize env.Members[d.toNat]'(by omega)=l;by_cases hN:(l.length:Int)<=N
    .rw[if_neg (by omega)];simp
    rw[if_pos hN,pn a.1 (by omega)];simp only[naa,Aw,Xc];generalize l[N.toNat]'(by omega)=v;have hgo:∀m n o:Int,∃e,(some (Ex.go (m,n,o,ca .i64 (d+1))):Option (Ex (Int×Int×Int×Int) (Int×Int×Int) (GValue×Int)))=some (.go e)/\(0<=e.2.2.2/\e.2.2.2<=(env.Members.length:Int))/\(env.Members.length-e.2.2.2).toNat<(env.Members.length-d).toNat:=by
     intro m n o;have:=he.mem;rw[wid (by omega) (by omega)]
     grind
    by_cases hv0:v.Kind=0
    .simp_all
    have h:(v.Kind==0)=false:=by simp[hv0]
    simp only[h,Eaa,if_false];by_cases y:(jz v&&(decide (v.Kind=t.Kind)&&decide (v.Enum=t.Enum)))=true
    case neg=>
     simp_all
    rw[y];simp only[tab,if_false];by_cases i:op=36
    .simp only[i,if_true];cases jz ⟨C,D,ca .i64 (k+v.N)⟩
     all_goals simp_all
    simp only[i,if_false];by_cases z:op=37
    .simp_all
    simp only[z,if_false];by_cases A:op=38
    .simp_all
    have B:op=39:=by omega
    simp only[A,B,if_false,if_true];obtain⟨b,hb⟩:∃b,(if¬d=0 then some (decide (k<v.N))else some true)=some b:=by grind
    rw[hb,naa];cases b
    all_goals simp_all) (x:=(t.Kind,t.Enum,j,0)) ⟨by simp,by simp⟩
   rcases f with⟨⟨q,r,b3⟩,u,-⟩|⟨⟨q,r⟩,u,-⟩
   all_goals simp_all
 grind[iR,Ys.ite]
theorem IX{n:GNode}{args:List GValue}{env:GEnv}(he:EnvOk env) (hN:Bd n) (hl:args.length<=3):Ys (Zi n args env):=by
 refine vJ hl λd h2 h3 h4 h5=>?_;obtain⟨op,N⟩:=n;dsimp only at d h2;have two:(11<=op/\op<=24)\/(27<=op/\op<=30)->∃a b,args=[a,b]:=by
  intro h;have:args.length=2:=by grind[He]
  match args,this with
  |[a,b],_=>simp
 have one:op=10\/op=25\/(31<=op/\op<=34)->∃a,args=[a]:=by
  intro h;have:args.length=1:=by grind[He]
  match args,this with
  |[a],_=>simp
 have zero:op<=9\/35<=op->args=[]:=by
  grind[He,Qad]
 rcases XE d with h|h|h|h|h|h|h|h|h|h|h|h|h|h|h|h|h|h|h|h|h|h|h|h|h|h|h|h|h|h|h|h|h|h|h|h|h|h|h<;>subst h
 .grind[Ru]
 .grind[Ru]
 .grind[Ru]
 .grind[Ru]
 .grind[Ru]
 .grind[V3]
 .grind[X3]
 .grind[Y3]
 .grind[Z3]
 .obtain⟨a,rfl⟩:=one (by omega);grind[VW]
 .obtain⟨a,b,rfl⟩:=two (by omega);grind[qL]
 .obtain⟨a,b,rfl⟩:=two (by omega);grind[qL]
 .obtain⟨a,b,rfl⟩:=two (by omega);grind[BA]
 .obtain⟨a,b,rfl⟩:=two (by omega);grind[BA]
 .obtain⟨a,b,rfl⟩:=two (by omega);grind[BA]
 .obtain⟨a,b,rfl⟩:=two (by omega);grind[BA]
 .obtain⟨a,b,rfl⟩:=two (by omega);grind[rL]
 .obtain⟨a,b,rfl⟩:=two (by omega);grind[rL]
 .obtain⟨a,b,rfl⟩:=two (by omega);grind[tL]
 .obtain⟨a,b,rfl⟩:=two (by omega);grind[tL]
 .obtain⟨a,b,rfl⟩:=two (by omega);grind[uL]
 .obtain⟨a,b,rfl⟩:=two (by omega);grind[uL]
 .obtain⟨a,b,rfl⟩:=two (by omega);grind[vL]
 .obtain⟨a,b,rfl⟩:=two (by omega);grind[vL]
 .obtain⟨a,rfl⟩:=one (by omega);grind[WW]
 .have:args.length=3:=by grind[He]
  match args,this with
  |[a,b,c],_=>grind[XW]
 .obtain⟨a,b,rfl⟩:=two (by omega);grind[YW]
 .obtain⟨a,b,rfl⟩:=two (by omega);grind[ZW]
 .obtain⟨a,b,rfl⟩:=two (by omega);grind[wL]
 .obtain⟨a,b,rfl⟩:=two (by omega);grind[wL]
 .obtain⟨a,rfl⟩:=one (by omega);grind[IF]
 .obtain⟨a,rfl⟩:=one (by omega);grind[IF]
 .obtain⟨a,rfl⟩:=one (by omega);grind[aX]
 .obtain⟨a,rfl⟩:=one (by omega);grind[cX]
 all_goals grind[dX,TR]
theorem yV{e:List GNode}(h:Wst e) (hN:∀n∈e,Bd n) {env:GEnv}(he:EnvOk env):∀i,i<e.length->NodeP e env i:=
 node_g h λi hi _=>IX he (ndOk hN hi) (by grind[LA,SL])
theorem VN{e:List GNode}(hN:∀n∈e,Bd n) {env:GEnv}(he:EnvOk env) (h:Wst e):il e env=some (ZC e env (e.length-1))/\((ZC e env (e.length-1)).2=0->Kc (ZC e env (e.length-1)).1):=
 P6 h (yV h hN he _ (by have:=h.pos;omega))
theorem xS{e:List GNode}(hN:∀n∈e,Bd n) {env:GEnv}(he:EnvOk env):Ys (il e env):=by
 by_cases a:(tp e).2.2=0
 .obtain⟨b,h2⟩:=VN hN he (iJ a);exact⟨_,b,h2⟩
 .unfold il Kq;rw[Tp];simp only[naa];rw[if_pos a];exact⟨_,rfl,λh=>absurd h a⟩
theorem Po{s:GScope}(hs:ScOk s):ue s=some (au (Jo s)):=by
 grind[ue,dn]
theorem mC{g:List (List Int)}:∀(k:Nat) (out:List Int),(∀x∈out,0<=x/\x<(g.length:Int))->(out.length+k<=g.length)->(∀x∈(It g k out).1,0<=x/\x<(g.length:Int))/\(It g k out).1.length<=g.length
 |0,out,h,hl=>⟨h,hl⟩
 |k+1,out,h,hl=>by
  unfold It;split
  .rename_i d hf;have h2:=List.mem_of_find?_eq_some hf;rw[Kac]at h2;refine mC k _ (λx hx=>?_) (by grind)
   grind
  simp
theorem ZM(g:List (List Int)):(∀x∈(au g).1,0<=x/\x<(g.length:Int))/\(au g).1.length<=g.length:=mC g.length [] (λx hx=>by simp at hx) (by simp)
def kK(n:Nat) (x:Int):Prop:=x = -1\/x = -2\/(0<=x/\x<(n:Int))
theorem zV{t1:List Int}{out:Int->Int}{l:List Int}{n:Nat}(h:∀x∈l,kK n (out x)):kK n (JL t1 out l):=by
 unfold JL;have hs:=kx (t1:=t1) (out:=out) (l:=l);split
 .exact .inl rfl
 .simp_all
 .exact .inr (.inl rfl)
theorem w6{t0 t1:List Int}{t2:List Bool}:∀(k:Nat) (i:Int),0<=i->i<(t0.length:Int)->kK t0.length (oc t0 t1 t2 k i)
 |0,i,_,_=>.inl rfl
 |k+1,i,a,b=>by
  unfold oc;split
  .exact .inr (.inr ⟨a,b⟩)
  .exact zV λx hx=>by
    obtain⟨j,rfl,hj,-⟩:=sz hx;exact w6 k _ (by omega) (by omega)
theorem Y2(t0 t1:List Int) (t2:List Bool):kK t0.length (PR t0 t1 t2):=by
 unfold PR;split
 .exact zV λx hx=>by
   obtain⟨j,rfl,hj,-⟩:=sz hx;exact w6 t0.length _ (by omega) (by omega)
 .exact .inl rfl
structure ScE (s:GScope):Prop where
 ok:ScOk s
 n:∀r∈s.Rules,(∀n∈r.Guard,Bd n)/\(∀n∈r.Value,Bd n)
def oS:GEvalError:=⟨0,0,0,0⟩
def ZX(v:GValue):Prop:=v=⟨0,0,0⟩\/Kc v
structure ScopeR (n:Nat) (v:List GValue) (r:List Int):Prop where
 vl:v.length=n
 rl:r.length=n
 vp:∀x∈v,ZX x
theorem mem_set{α:Type}{l:List α}{i:Nat}{x y:α}(h:y∈l.set i x):y=x\/y∈l:=by
 grind
theorem rT{s:GScope}(u:ScE s) {env:GEnv}(he:EnvOk env) (m d:Int):∃p,Bg s env m d=some p/\(p.2.Code=0->kK s.Rules.length p.1):=by
 have hr:=u.ok.rules;unfold Bg;rw[Cs hr,naa];obtain⟨hl1,f,e⟩:=kA (rules:=s.Rules) (q:=pR d env.Date) s.Rules.length;have hm:=pF (rules:=s.Rules) (q:=pR d env.Date) s.Rules.length;unfold zP;generalize (jo s.Rules (pR d env.Date) s.Rules.length).2.1=par at e⊢;generalize (jo s.Rules (pR d env.Date) s.Rules.length).1=L at f e hm⊢;generalize L.map (vF s)=k;dsimp only;rw[nB (by omega) (by omega),naa];have g:=IE (s:=Gk s env m d (L,par,k))
  (λx=>∃i:Nat,i<=L.length/\x.2=(i:Int)/\x.1.length=L.length) (λx=>(L.length-x.2).toNat)
  (λx=>x.length=L.length) (λx=>x.2.Code≠0) (by
   rintro⟨a,a2⟩ ⟨i,i1,w,y⟩;dsimp only at w y;subst w;unfold Gk;dsimp only;by_cases hi:i<L.length
   case neg=>
    grind
   have hx:=hm _ (xaa hi);rw[if_pos (by omega),Pa hi];simp only[naa];generalize L[i]=x at hx⊢;rw[pn hx.1 hx.2.1];simp only[naa];have c:s.Rules[x.toNat]'(by omega)∈s.Rules:=xaa _;generalize s.Rules[x.toNat]'(by omega)=r at c;have hN:=(u.n r c).1;have step:∀v:Bool,(oaa (α:=((List Bool)⊕(Ex ((List Bool)×Int) (List Bool) (Int×GEvalError)))) ((idx a (i:Int)).bind λx13=>(put a (i:Int) v).bind λo=>some (Sum.inl o)) λz=>match z with|.inr v=>some v|.inl j=>some (Ex.go (j,(ca .i64 ((i:Int)+1)))))=some (.go (a.set i v,((i+1:Nat):Int))):=by
    intro v;rw[Pa (by omega),naa,Ty (by omega),naa,naa]
    grind[Ha]
   by_cases t:(r.Guard.length:Int)=0
   .rw[if_pos t];exact .inl ⟨_,step true,⟨i+1,by omega,rfl,by simp_all⟩,by omega⟩
   .rw[if_neg t];obtain⟨p,A,p3⟩:=xS hN he;rw[A,naa];by_cases hc:p.2=0
    .rw[if_neg (waa.2 hc)];exact .inl ⟨_,step _,⟨i+1,by omega,rfl,by simp_all⟩,by omega⟩
    simp_all) (x:=(raa L.length false,0)) ⟨0,sab _,rfl,by simp⟩
 rcases g with⟨x,g1,g2⟩|⟨x,g1,g3⟩
 .rw[g1,naa];dsimp only;rw[Lt];simp only[naa];have b:=Y2 par k x;generalize PR par k x=v at b;by_cases hv:v<0
  .rw[if_pos hv];refine⟨_,rfl,λ_=>?_⟩;rcases b with h|h|h
   .exact .inl h
   .exact .inr (.inl h)
   omega
  .rw[if_neg hv,pn (by omega) (by rcases b with h|h|h<;>omega),naa];have:=hm _ (xaa (l:=L) (n:=v.toNat) (by rcases b with h|h|h<;>omega));exact⟨_,rfl,λ_=>.inr (.inr ⟨this.1,this.2.1⟩)⟩
 simp_all
theorem qP{s:GScope}(u:ScE s) {env:GEnv}(he:EnvOk env) {w:List Bool}(hw:w.length=s.Defs.length) (m:Int) :
 (∃v r,Ua s env m w=some ((r,oS),{ env with Defs:=v })/\ScopeR s.Defs.length v r)\/
 ∃e d,e.Code≠0/\Ua s env m w=some (([],e),d):=by
 have hd:=u.ok.defs;unfold Ua;rw[nB (by omega) (by omega),nB (by omega) (by omega),naa,naa,Po u.ok,naa];obtain⟨g,o⟩:=ZM (Jo s);rw[Cq]at g o;generalize au (Jo s)=ord at g o⊢;have z:=IE (s:=Ce s env m w ord)
  (λx=>∃i:Nat,i<=ord.1.length/\x.2.2=(i:Int)/\ScopeR s.Defs.length x.1 x.2.1) (λx=>(ord.1.length-x.2.2).toNat)
  (λx=>ScopeR s.Defs.length x.1 x.2) (λx=>∃e d,x=(([],e),d)/\e.Code≠0) (by
   rintro⟨a,b,c⟩ ⟨i,i1,F,A,B,C⟩;dsimp only at F A B C;subst F;unfold Ce;dsimp only;by_cases hi:i<ord.1.length
   case neg=>
    rw[if_neg (by omega)];exact .inr (.inl ⟨_,rfl,A,B,C⟩)
   have hx:=g _ (xaa hi);rw[if_pos (by omega),Pa hi];simp only[naa];generalize ord.1[i]=x at hx⊢;rw[pn (l:=w) hx.1 (by omega)];simp only[naa];by_cases t:w[x.toNat]'(by omega)=false
   .rw[if_pos t];simp only[naa];rw[Ha (by omega)];exact .inl ⟨_,rfl,⟨i+1,by omega,rfl,A,B,C⟩,by grind⟩
   rw[if_neg t];have j:EnvOk (GEnv.mk env.Date env.Inputs a env.Members env.MemberTypes env.Tables):=⟨he.tabs,he.mem⟩;obtain⟨p,H,I⟩:=rT u j m x;rw[H];simp only[naa];by_cases hc:p.2.Code=0
   case neg=>
    simp_all
   rw[if_neg (waa.2 hc)];by_cases G:p.1 = -1
   .simp_all
   rw[if_neg G];by_cases h2:p.1 = -2
   .simp_all
   rw[if_neg h2];have D:0<=p.1/\p.1<(s.Rules.length:Int):=by
    rcases I hc with h|h|h
    all_goals omega
   rw[pn D.1 D.2];simp only[naa];have f:s.Rules[p.1.toNat]'(by omega)∈s.Rules:=xaa _;generalize s.Rules[p.1.toNat]'(by omega)=r at f;obtain⟨q,q1,J⟩:=xS (u.n r f).2 j;rw[q1];simp only[naa];by_cases hq:q.2=0
   case neg=>
    simp_all
   rw[if_neg (waa.2 hq)];obtain⟨k,rfl⟩:=Cab hx.1;rw[Pa (by omega),naa,Ty (by omega),naa,Pa (by omega),naa,Ty (by omega)];simp only[naa];rw[Ha (by omega)];refine .inl ⟨_,rfl,⟨i+1,by omega,rfl,?_,?_,?_⟩,by grind⟩
   .grind
   .grind
   .intro y E;rcases mem_set E with rfl|E
    .exact .inr (J hq)
    simp_all) (x:=(raa s.Defs.length ⟨0,0,0⟩,raa s.Defs.length 0,0)) ⟨0,sab _,rfl,by simp,by simp,λx hx=>.inl (List.eq_of_mem_replicate hx)⟩
 rcases z with⟨x,g1,g3⟩|⟨x,g1,e,d,rfl,g3⟩
 .rw[g1];exact .inl ⟨x.1,x.2,rfl,g3⟩
 simp_all
theorem cu{n:Nat}{f:Nat->Bool}{x:Int}(a:0<=x) (h1:x<(n:Int)):put ((zaa n).map f) x true=some ((zaa n).map λk=>f k || decide (x=(k:Int))):=by
 obtain⟨j,rfl⟩:=Cab a;rw[Ty (by simp_all)];congr 1;apply Yab
 all_goals grind
theorem uq{α:Type}{n:Nat}{f:Nat->α}{x:Int}(h0:0<=x) (h1:x<(n:Int)):idx ((zaa n).map f) x=some (f x.toNat):=by
 grind[pn]
theorem sH{n:Nat}{l:List Int}(hl:l.length<=1048576) (hm:∀x∈l,0<=x/\x<(n:Int)) (f:Nat->Bool) {step:List Bool×Int->Option (Ex (List Bool×Int) (List Bool) Unit)}
 (c:∀a b,step (a,b)=if b<(l.length:Int)then(idx l b).bind λx=>(idx a x).bind λ_=>(put a x true).bind λq=>some (.go (q,ca .i64 (b+1)))else some (.brk a)) :
 ja step ((zaa n).map f,0)=some (.inl ((zaa n).map λk=>f k || l.contains (k:Int))):=by
 refine Yg (λi=>((zaa n).map (λk=>f k || (l.take i).contains (k:Int)),(i:Int))) l.length _ (λi hi=>?_) ?_ (by simp)
 .have hx:=hm _ (xaa hi);rw[c,if_pos (by omega),Pa hi,naa,uq hx.1 hx.2,naa,cu hx.1 hx.2,naa,Ha (by omega),Uaa,qaa hi]
  grind
 simp_all
theorem xB(n:Nat):raa n false=(zaa n).map λ_=>false:=by
 apply Yab<;>simp
def wB(s:GScope) (d x:Int):Bool:=decide (d=x) || (DL s d s.Defs.length).contains x
theorem xX{s:GScope}{d x:Int}:wB s d x=true↔d=x\/Way s d x:=by
 simp_all[wB,oD]
theorem Nx{s:GScope}{d x:Int}(h:Way s d x):0<=x/\x<(s.Defs.length:Int):=by
 cases h with
 |one h=>exact h.2.1
 |step _ h=>exact h.2.1
def kC(r:GRule):List Int:=EA Gu r.Guard++EA Gu r.Value
def PE(s:GScope) (d:Int):List Int:=Ig ((s.Rules.filter λ(r:GRule)=>wB s d r.Def).flatMap kC)
theorem fK{l:List GRule}(a:∀r∈l,r.Guard.length<=1048576/\r.Value.length<=1048576) {p:GRule->Bool}:((l.filter p).flatMap kC).length<=2097152*l.length:=by
 induction l with
 |nil=>simp
 |cons r l b=>
  have:=b λx hx=>a x (by grind)
  grind[kC,ox]
theorem vz{s:GScope}(c:ScOk s) {d:Int}(hd:0<=d/\d<(s.Defs.length:Int)):Yh s d=some (PE s d):=by
 have h1:=c.defs;have h2:=c.rules;obtain⟨l,hl,j,f⟩:=Ml c d;unfold Tc at hl;rw[if_pos (by omega),naa,if_neg (by simp_all)]at hl;unfold Yh;rw[if_pos (by omega),naa,if_neg (by simp_all),nB (by omega) (by omega),naa,xB,uq hd.1 hd.2,naa,cu hd.1 hd.2,naa]
 cases ha:tc s with
 |none=>simp_all
 |some g=>
  rw[ha,naa]at hl;rw[naa]
  cases hr:wi g d with
  |none=>simp_all
  |some l'=>
   rw[hr,naa]at hl;obtain rfl:=Raa hl;rw[naa,sH j (λx hx=>Nx ((f x).1 hx)) _ (λa b=>by grind[Yn]),naa];dsimp only;have hw:((zaa s.Defs.length).map λ(k:Nat)=>(false || decide (d=(k:Int))) || l'.contains (k:Int))=(zaa s.Defs.length).map λ(k:Nat)=>wB s d (k:Int):=by
    apply Qab;intro k _;unfold wB;rw[Bool.false_or];congr 1;rw[gad,dab,dab,f,oD]
   rw[hw];have m:ja (qh s ((zaa s.Defs.length).map λ(k:Nat)=>wB s d (k:Int))) (([]:List Int),0)=some (.inl ((s.Rules.filter λ(r:GRule)=>wB s d r.Def).flatMap kC)):=by
    refine Yg (λi=>(((s.Rules.take i).filter λ(r:GRule)=>wB s d r.Def).flatMap kC,(i:Int))) s.Rules.length _ (λi hi=>?_) ?_ rfl
    .have hr:=c.g _ (xaa hi);have hb:=fK (l:=s.Rules.take i) (λr hr=>c.g r (List.mem_of_mem_take hr)) (p:=λ(r:GRule)=>wB s d r.Def);have h5:(s.Rules.take i).length<=1048576:=by grind
     have q:=ox (p:=Gu) (e:=s.Rules[i].Guard);have t:=ox (p:=Gu) (e:=s.Rules[i].Value);unfold qh;dsimp only;rw[if_pos (by omega),Pa hi,naa,Ha (by omega),Uaa,qaa hi];simp only[Kab,Jab,List.flatMap_append];generalize s.Rules[i]=r at hr q t⊢;generalize ((s.Rules.take i).filter λ(r:GRule)=>wB s d r.Def).flatMap kC=acc at hb⊢;have hc:(if¬r.Def<0 then if¬(s.Defs.length:Int)<=r.Def then(idx ((zaa s.Defs.length).map λ(k:Nat)=>wB s d (k:Int)) r.Def).bind λo=>some (!o)else some true else some true)=some (!wB s d r.Def):=by
      by_cases g1:0<=r.Def
      .by_cases g2:r.Def<(s.Defs.length:Int)
       .rw[if_pos (by omega),if_pos (by omega),uq g1 g2,naa]
        grind
       .rw[if_pos (by omega),if_neg (by omega)];have:wB s d r.Def=false:=by
         rw[←Zac,xX];rintro(h|h)
         .omega
         .have:=Nx h;omega
        simp_all
      .rw[if_neg (by omega)];have:wB s d r.Def=false:=by
        rw[←Zac,xX];rintro(h|h)
        .omega
        .have:=Nx h;omega
       simp_all
     rw[hc,naa];cases n:wB s d r.Def
     .simp[n]
     .rw[if_neg (by simp),Ol (by omega),naa,Ol (by omega),naa]
      grind[pC,kC,kj]
    simp_all[qh]
   rw[m,naa];dsimp only;have hb:=fK (l:=s.Rules) c.g (p:=λ(r:GRule)=>wB s d r.Def);rw[uu (by omega)];rfl
theorem rng{a b c:Int}:(if¬a<b then some (decide (c<a))else some true)=some (decide (a<b) || decide (c<a)):=by
 grind
theorem aT{c:GCalendar}(h:c.Holidays.length<=1048576):∃b,Vd c=some b:=by
 have hs:∀i:Nat,i<c.Holidays.length->ld c (i:Int)=some (.ret false)\/ld c (i:Int)=some (.go (ca .i64 ((i:Int)+1))):=by
  intro i hi;unfold ld;rw[if_pos (by omega),Pa hi,naa];unfold Od;generalize c.Holidays[i]=x;by_cases h1:0<=x
  .by_cases h2:x<=109572
   .by_cases h3:0<i
    .obtain⟨k,rfl⟩:∃k,i=k+1:=⟨i-1,by omega⟩
     grind[wid,Pa]
    simp_all
   grind
  grind
 classical
 unfold Vd;rw[show(if¬c.Weekend<0 then if¬126<c.Weekend then some (decide (64<(c.Holidays.length:Int)))else some true else some true)=some (decide (c.Weekend<0) || (decide (126<c.Weekend) || decide (64<(c.Holidays.length:Int)))) by
  grind,naa]
 split
 .simp
 .rcases pz h (λi=>decide (ld c (i:Int)=some (.ret false))) (step:=ld c) (λi hi=>by
   grind) (by grind[ld])with g|⟨g,-⟩
  all_goals simp_all
theorem gx{l:GLaw}(h:(oo l).Code=0):oo l=⟨0,0,0,0⟩:=by
 unfold oo at h⊢;split at h
 .grind
 rename_i c;rw[if_neg c];generalize e:ff _ l.Enums.length=m at h⊢
 cases m with
 |some v=>exact(sx (f:=λi=>match l.Enums[i]? with|some x=>if(Tk l i x).1=0 then none else some (⟨(Tk l i x).1,1,(i:Int),(Tk l i x).2⟩:GLawError)|none=>none) vM e h).elim
 |none=>
 dsimp only at h⊢;split at h
 .grind
 rename_i h2;rw[if_neg h2];generalize g:ff _ l.Tables.length=n at h⊢
 cases n with
 |some v=>exact(sx (f:=λi=>match l.Tables[i]? with|some x=>if(Ar l i x).1=0 then none else some (⟨(Ar l i x).1,2,(i:Int),(Ar l i x).2⟩:GLawError)|none=>none) LN g h).elim
 |none=>
 dsimp only at h⊢;split at h
 .grind
 rename_i d;rw[if_neg d];generalize hf:ff _ l.Scopes.length=o at h⊢
 cases o with
 |none=>rfl
 |some v=>
  rw[Rab]at h;obtain⟨k,j,a,-⟩:=Ob.1 hf;rw[qaa j]at a;dsimp only at a;split at a
  .grind
  .injection a with a;subst a;rename_i b;exact(b h).elim
theorem UT{l:GLaw}(a:Valid l) {i k:Nat}(hi:i<l.Scopes.length) (hk:k<l.Scopes[i].Defs.length):va l.Scopes[i].Defs[k].Type_ l.Enums=true:=by
 have h:=a.s i hi;generalize l.Scopes[i]=x at h hk⊢;unfold ko at h
 repeat' split at h
 all_goals first|(simp at h;done)|skip
 .rename_i v hv;exact(fH NU hv h).elim
 .rename_i v hv;exact(fH nO hv h).elim
 .rename_i v hv;exact(fH pP hv h).elim
 .rename_i hd _ _;have:=Jb.1 hd k hk
  grind[kM,wv]
theorem HJ{l:GLaw}(h:LawOk l) {c:GPayConfig}(hc:c.Calendar.Holidays.length<=1048576) (sc:Int):∃n,Ga l sc c=some n:=by
 have key:∃n,Ga l sc c=some n:=by
  unfold Ga;rw[Ij h];simp only[naa];by_cases hv:(oo l).Code=0
  .have s:=TF hv;rw[gx hv];simp only[not_true_eq_false,if_false,and_self,beq_self_eq_true,tab];obtain⟨b,hb⟩:=aT hc;by_cases d:sc<0
   .simp[d]
   by_cases h2:(l.Scopes.length:Int)<=sc
   .simp[d,h2]
   by_cases e:c.Def<0
   .simp[d,h2,e]
   obtain⟨i,rfl⟩:∃i:Nat,sc=(i:Int):=⟨sc.toNat,by omega⟩;have hi:i<l.Scopes.length:=by omega
   rw[if_pos d,if_pos h2,if_pos e,Pa hi,naa,naa];by_cases p:(l.Scopes[i].Defs.length:Int)<=c.Def
   .simp[p]
   obtain⟨k,hk⟩:∃k:Nat,c.Def=(k:Int):=⟨c.Def.toNat,by omega⟩;have a:k<l.Scopes[i].Defs.length:=by omega
   rw[show decide ((l.Scopes[i].Defs.length:Int)<=c.Def)=false by simp_all];have ht:=UT s hi a;simp only[hk,Pa a,naa,Eaa,if_false];generalize l.Scopes[i].Defs[k].Type_=t at ht⊢;by_cases q:t.Kind=3
   .have r:t.Enum=0:=by
     simp_all[va]
    simp only[q,r,and_self,not_true_eq_false,if_false,rng,hb,naa];by_cases g1:c.Rounding<0
    .simp[g1]
    by_cases g2:5<c.Rounding
    .simp_all
    rw[if_pos g1,if_pos g2];simp only[g1,g2,decide_false,Bool.or_self,if_true,naa];cases b
    .simp
    simp only[Uac,Eaa,if_false];generalize (decide (c.PayDay<1) || decide (28<c.PayDay))=f;generalize (decide (c.RecoveryCap<0) || decide (1000000<c.RecoveryCap))=g;generalize (decide (c.RecoveryFloor<0) || decide (1000000000000000<c.RecoveryFloor))=j;generalize (decide (c.FirstMonth<0) || decide (3599<c.FirstMonth))=m;generalize (decide (c.AppealDays<0) || decide (365<c.AppealDays))=o;cases f<;>cases g<;>cases j<;>cases m<;>cases o<;>simp
   simp_all
  simp_all
 omega
theorem Valid.rule{l:GLaw}(a:Valid l) {i k:Nat}(hi:i<l.Scopes.length) (hk:k<l.Scopes[i].Rules.length):rC l.Scopes[i] (CF l l.Scopes[i]) k l.Scopes[i].Rules[k]=0:=by
 have h:=a.s i hi;generalize l.Scopes[i]=x at h hk⊢;unfold ko at h
 repeat' split at h
 all_goals first|(simp at h;done)|skip
 .rename_i v hv;exact(fH NU hv h).elim
 .rename_i v hv;exact(fH nO hv h).elim
 .rename_i v hv;exact(fH pP hv h).elim
 simp_all[zN,Jb]
theorem Valid.GM{l:GLaw}(a:Valid l) {i:Nat}(hi:i<l.Scopes.length):mB l i l.Scopes[i]=false/\l.Scopes[i].Inputs.length<=12/\l.Scopes[i].Defs.length<=12:=by
 have h:=a.s i hi
 grind[ko]
theorem SF{e:List GNode}{s:GSignature}{t:GType}(h:RF e s t=0):(Pv e s).2.2=0:=by
 grind[RF]
theorem WK{x:GScope}{s:GSignature}{k:Nat}{r:GRule}(h:rC x s k r=0):(0<r.Guard.length->(Pv r.Guard s).2.2=0)/\(Pv r.Value s).2.2=0:=by
 unfold rC at h;split at h
 .omega
 split at h
 .omega
 split at h
 .omega
 split at h
 .omega
 split at h
 .omega
 split at h
 .omega
 split at h
 .omega
 split at h
 .omega
 .rename_i h2;refine⟨λhl=>?_,SF h⟩;exact SF (t:=⟨1,0⟩) (Ead λa=>h2 ⟨hl,a⟩)
theorem Z1{op N:Int}{ops:List GType}{s:GSignature}(h:36<=op/\op<=39) {p:GType×Int}(hr:td ⟨op,N⟩ ops s=some p) (a:p.2=0):0<=N/\N<(s.MemberDefs.length:Int):=by
 rcases Decidable.em (0<=N/\N<(s.MemberDefs.length:Int))with hc|hc
 .omega
 exfalso;have hu:=nc (op:=op) (by omega);have c:ij op=true:=by grind[ij]
 unfold td La di Yd at hr;simp only[hu,c,Zb,Un,tE]at hr;by_cases d:N<0
 .rcases(by omega:op=36\/op=37\/op=38\/op=39)with h|h|h|h<;>subst h<;>cases b:s.HasMembers<;>simp[b,d]at hr<;>(rw[←hr]at a;simp at a)
 .have e:(s.MemberDefs.length:Int)<=N:=by omega
  rcases(by omega:op=36\/op=37\/op=38\/op=39)with h|h|h|h<;>subst h<;>cases b:s.HasMembers<;>simp[b,d,e]at hr<;>(rw[←hr]at a;simp at a)
theorem ZR{e:List GNode}{s:GSignature}(hN:∀n∈e,Bd n) (h:(Pv e s).2.2=0):∀n∈e,Gu n=true->0<=n.N/\n.N<(s.MemberDefs.length:Int):=by
 unfold Pv at h;split at h
 case isFalse h2=>simp_all
 rename_i c;have hw:=iJ c;have hn:ff (MF e s) e.length=none:=by
  grind[MF,Ob]
 intro n a hm;obtain⟨j,hj,rfl⟩:=Aaa a;have ht:=Jb.1 hn j hj;obtain⟨-,-,h39⟩:=hw.ar hj;unfold MF at ht;split at ht
 case isFalse=>grind
 rename_i d;have hr:=HK hw hN hj (λi hi=>Jb.1 hn i (by omega));rw[Ht hj];rw[Ht hj]at hm;have b:36<=(Mg e j).Op/\(Mg e j).Op<=39:=by
  grind[Gu]
 have hres:=Z1 (op:=(Mg e j).Op) (N:=(Mg e j).N) b hr d;omega
theorem ZI{l:GLaw}(h:LawOk l) {x:GScope}(hx:x∈l.Scopes):ScE x:=by
 obtain⟨-,g2,-,-,-,a⟩:=h.s x hx;exact⟨g2,λr hr=>(a r hr).2.2⟩
theorem bnd4{t:GType}{e:List GEnum}(hk:t.Kind=4):-1000000000<=(ZP t e).1/\(ZP t e).2<=1000000000:=by
 have hb:=Om t e;unfold kd at hb;rw[Zb,naa]at hb
 grind
theorem Valid.rowsN{l:GLaw}(h:Valid l):∀t∈l.Tables,t.Rows.length<=150/\(t.Value.Kind=4->RowsN t):=by
 intro t ht;have h64:=h.rows t ht;refine⟨by omega,λhk=>⟨by omega,λr hr=>?_⟩⟩;obtain⟨i,hi,rfl⟩:=Aaa ht;have:=h.t i hi;generalize l.Tables[i]=t at *;unfold Ar at this;split at this
 .omega
 split at this
 .omega
 split at this
 case isFalse h2=>omega
 rename_i h2;unfold Br at h2;rw[if_neg (by omega)]at h2;split at h2
 .omega
 have hn:ff (FG t l.Enums) t.Rows.length=none:=by
  cases hf:ff (FG t l.Enums) t.Rows.length with
  |none=>rfl
  |some v=>
   rw[hf]at h2;obtain⟨k,_,h3,_⟩:=Ob.1 hf
   grind[FG]
 obtain⟨k,b,rfl⟩:=Aaa hr;have c:=Jb.1 hn k b;unfold FG at c;rw[qaa b]at c;dsimp only at c;split at c
 .grind
 rename_i hw;unfold TN at hw;have a:aR t.Rows[k].N t.Value l.Enums=true:=by
  simp_all
 unfold aR at a;simp only[Caa,decide_eq_true_eq]at a;have:=bnd4 (t:=t.Value) (e:=l.Enums) hk;omega
theorem aK{l:GLaw}(h:Valid l) {env:GEnv}(ht:env.Tables=l.Tables) (hm:env.Members.length<=1048576):EnvOk env:=⟨by rw[ht];exact h.rowsN,hm⟩
def gG(l:GLaw) (x:GScope):GScope:=if h:0<=x.MemberScope/\x.MemberScope<(l.Scopes.length:Int)then l.Scopes[x.MemberScope.toNat]'(by omega)else⟨yaa #[],0,[],[],[]⟩
theorem VM{l:GLaw}(h:LawOk l) (x:GScope):ScE (gG l x):=by
 unfold gG;split
 .grind[ZI]
 .exact⟨⟨by simp,by simp,by simp⟩,by simp⟩
theorem QE{l:GLaw}(hl:LawOk l) (j:Valid l) {i:Nat}(hi:i<l.Scopes.length) {d:Int}:∀m∈PE l.Scopes[i] d,0<=m/\m<((gG l l.Scopes[i]).Defs.length:Int):=by
 intro m hm;have hx:=ZI hl (xaa hi);unfold PE at hm;rw[(dh _).2.2,List.mem_flatMap]at hm;obtain⟨r,hr,hm⟩:=hm;have hr:=(hac.1 hr).1;obtain⟨k,hk,rfl⟩:=Aaa hr;have ht:=WK (j.rule hi hk);have hn:=hx.n _ (xaa hk);have a:((CF l l.Scopes[i]).MemberDefs.length:Int)=((gG l l.Scopes[i]).Defs.length:Int):=by
  grind[CF,gG]
 rw[←a];have of:∀e:List GNode,(∀n∈e,Bd n)->(Pv e (CF l l.Scopes[i])).2.2=0->m∈EA Gu e->0<=m/\m<((CF l l.Scopes[i]).MemberDefs.length:Int):=by
  intro e c h2 b;unfold EA at b;rw[(dh _).2.2,fab]at b;obtain⟨n,f,rfl⟩:=b;obtain⟨g,h⟩:=hac.1 f;exact ZR c h2 n g h
 grind[kC,EA,Ig,Qad]
theorem mV{l:GLaw}(hl:LawOk l) (b:Valid l) {i:Nat}(hi:i<l.Scopes.length) {d:Int}:(PE l.Scopes[i] d).length<=1048576:=by
 have h1:=fD (a:=PE l.Scopes[i] d) (lo:=0) (hi:=((gG l l.Scopes[i]).Defs.length:Int)) (dh _).1 (QE hl b hi);have:=(VM hl l.Scopes[i]).ok.defs;omega
def SP(f:GFact):Prop:=f.Id<0\/(f.Member < -1\/8<=f.Member)\/(f.Input < -1\/12<=f.Input)\/(f.Member = -1/\f.Input = -1)\/neB f.Valid=false\/(f.Recorded<0\/109572<f.Recorded)
instance (f:GFact):Decidable (SP f):=by unfold SP;infer_instance
def TP(f:GFact):Prop:=(f.Value.Kind<1\/6<f.Value.Kind)\/(f.Input = -1/\¬f.Value.Kind=1)
instance (f:GFact):Decidable (TP f):=by unfold TP;infer_instance
def fI(f:GFact):Int:=if SP f then 3 else if TP f then 8 else 0
theorem andO{a:Prop} [Decidable a] {b:Bool}{α:Type}{k:Bool->Option α}:(oaa (α:=Bool) (if a then some b else some false) k)=k (decide a&&b):=by
 grind
theorem y6{a b:Prop} [Decidable a] [Decidable b] {α:Type}{k:Bool->Option α}:(oaa (α:=Bool) (if¬a then some (decide b)else some true) k)=k (decide (a\/b)):=by
 grind
theorem iteOr{α:Type}{a b:Prop} [Decidable a] [Decidable b] {x y:α}:(if a then x else if b then x else y)=if a\/b then x else y:=by
 grind
theorem Iz(f:GFact):yg f=some (fI f):=by
 unfold yg;simp only[y6,andO,Fu,naa,decide_eq_true_eq,Caa,beq_iff_eq,bne_iff_ne,ne_eq,iteOr];unfold fI;by_cases a:SP f
 .rw[if_pos a];unfold SP at a;simp_all
 .rw[if_neg a];unfold SP at a;rw[if_neg a];by_cases b:TP f
  .rw[if_pos b];unfold TP at b;simp_all
  .rw[if_neg b];unfold TP at b;simp_all
def vI(l:List GFact) (i:Nat):Option (Int×Int):=
 match l[i]? with
 |some f=>if¬fI f=0 then some ((i:Int),fI f)else if((l.take i).any λy=>decide (y.Id=f.Id))=true then some ((i:Int),7)else none
 |none=>none
def Ky(l:List GFact):Int×Int:=if 128<(l.length:Int)then(0,4)else(ff (vI l) l.length).getD (0,0)
theorem go_s{l:List GFact}:∀(rest:List GFact) (i:Nat) (seen:List Int),l.drop i=rest->(∀x,seen.contains x=(l.take i).any λy=>decide (y.Id=x))->Oe (i:Int) seen rest=some ((ff (λj=>vI l (i+j)) rest.length).getD (0,0))
 |[],i,seen,h,b=>rfl
 |f::rest,i,seen,h,b=>by
  have hi:i<l.length:=by
   grind[vac]
  have hf:l[i]=f/\l.drop (i+1)=rest:=by
   grind[mab]
  unfold Oe;rw[Iz,naa];simp only[ff,uaa,Nat.add_zero];have he:vI l i=if¬fI f=0 then some ((i:Int),fI f)else if((l.take i).any λy=>decide (y.Id=f.Id))=true then some ((i:Int),7)else none:=by
   grind[vI]
  rw[he];by_cases a:fI f=0
  case neg=>simp_all
  rw[if_neg (waa.2 a),if_neg (waa.2 a),b f.Id];by_cases hd:((l.take i).any λy=>decide (y.Id=f.Id))=true
  .simp_all
  .rw[if_neg hd,if_neg hd];dsimp only;rw[show(i:Int)+1=((i+1:Nat):Int)from rfl,go_s rest (i+1) (f.Id::seen) hf.2 (λx=>by
    grind)]
   grind
theorem YA(l:List GFact):Gj l=some (Ky l):=by
 unfold Gj Ky;split
 .rfl
 .have:=go_s (l:=l) l 0 [] (by simp) (λx=>by simp)
  simp_all
theorem JY{l:List GFact}{i:Nat}{v:Int×Int}(h:vI l i=some v):v.1=(i:Int)/\v.2≠0:=by
 unfold vI at h
 grind
structure FactsOk (l:List GFact):Prop where
 len:l.length<=128
 c:∀f∈l,fI f=0
 id:∀(i j:Nat) (hi:i<l.length) (hj:j<l.length),i<j->l[i].Id≠l[j].Id
theorem pE{l:List GFact}(h:(Ky l).2=0):FactsOk l:=by
 unfold Ky at h;split at h
 .omega
 have hn:∀i,i<l.length->vI l i=none:=by
  refine Jb.1 ?_
  cases hf:ff (vI l) l.length with
  |none=>rfl
  |some v=>
   grind[Ob,JY]
 have a:∀i (hi:i<l.length),fI l[i]=0/\((l.take i).any λy=>decide (y.Id=l[i].Id))=false:=by
  grind[vI]
 refine⟨by omega,λf hf=>?_,λi j hi hj hij=>?_⟩
 .obtain⟨i,hi,rfl⟩:=Aaa hf
  simp_all
 .have:=(a j hj).2;rw[List.any_eq_false]at this;have:=this l[i] (by rw[List.mem_take_iff_getElem];grind)
  simp_all
def fy(m i d r:Int) (f:GFact):Bool:=decide (f.Member=m)&&(decide (f.Input=i)&&(!decide (r<f.Recorded)&&OB f.Valid d))
def below(g f:GFact):Prop:=g.Recorded<f.Recorded\/(g.Recorded=f.Recorded/\g.Id<=f.Id)
instance (g f:GFact):Decidable (below g f):=by unfold below;infer_instance
theorem H6{l:List GFact}(hl:l.length<=1048576) (m i d r:Int):∃p,zm l m i d r=some p/\
 ((p=(⟨0,0,0⟩,false)/\∀f∈l,fy m i d r f=false)\/∃f∈l,p=(f.Value,true)/\fy m i d r f=true/\∀g∈l,fy m i d r g=true->below g f):=by
 have n:∀f:GFact,(if f.Member=m then if f.Input=i then if¬r<f.Recorded then(mc f.Valid d).bind λA=>some (!A)else some true else some true else some true)=some (!fy m i d r f):=by
  grind[fy,vi]
 have s:∀f g:GFact,Ds f g=some (decide (¬below f g)):=by
  intro f g;unfold Ds below;by_cases h:f.Recorded=g.Recorded
  .simp_all
  .rw[if_pos h];congr 1;grind
 have t:=dV (s1:=Gn l m i d r) (s2:=Gn l m i d r)
  (λx y=>x=y/\∃j:Nat,j<=l.length/\x.2=(j:Int)/\((x.1 = -1/\∀f∈l.take j,fy m i d r f=false)\/∃(k:Nat) (hk:k<l.length),x.1=(k:Int)/\fy m i d r l[k]=true/\∀g∈l.take j,fy m i d r g=true->below g l[k])) (λx=>(l.length-x.2).toNat)
  (λx y=>x=y/\((x = -1/\∀f∈l,fy m i d r f=false)\/∃(k:Nat) (hk:k<l.length),x=(k:Int)/\fy m i d r l[k]=true/\∀g∈l,fy m i d r g=true->below g l[k])) (λ_ _=>False) (by
   rintro⟨a,b⟩ y ⟨rfl,j,j1,z,u⟩;dsimp only at z u;subst z;unfold Gn;dsimp only;by_cases hj:j<l.length
   case neg=>
    grind
   rw[if_pos (by omega),Pa hj];simp only[naa,n];have q:l.take (j+1)=l.take j++[l[j]]:=by simp
   cases w:fy m i d r l[j]
   .simp only[Bool.not_false,if_true,naa];rw[Ha (by omega)];refine .inl ⟨_,_,rfl,rfl,⟨rfl,j+1,by omega,rfl,?_⟩,by omega⟩
    grind
   .simp only[Uac,Eaa,if_false];rcases u with⟨e,u⟩|⟨k,hk,e,v,h2⟩
    .subst e;rw[if_neg (by decide)];simp only[naa,if_true];rw[Ha (by omega)];refine .inl ⟨_,_,rfl,rfl,⟨rfl,j+1,by omega,rfl,?_⟩,by omega⟩;refine .inr ⟨j,hj,rfl,w,λg c o=>?_⟩;rw[q]at c;rcases bab.1 c with c|c
     .simp_all
     .rw[uab]at c;rw[c];exact .inr ⟨rfl,dad _⟩
    .subst e;rw[if_pos (by omega),Pa hk];simp only[naa,s];by_cases hb:below l[j] l[k]
     .rw[decide_eq_false (p:=¬below l[j] l[k]) (λh=>h hb)];simp only[Eaa,if_false,naa];rw[Ha (by omega)];refine .inl ⟨_,_,rfl,rfl,⟨rfl,j+1,by omega,rfl,.inr ⟨k,hk,rfl,v,λg c o=>?_⟩⟩,by omega⟩
      grind
     .rw[decide_eq_true hb];simp only[if_true,naa];rw[Ha (by omega)];refine .inl ⟨_,_,rfl,rfl,⟨rfl,j+1,by omega,rfl,.inr ⟨j,hj,rfl,w,λg c o=>?_⟩⟩,by omega⟩;rw[q]at c;rcases bab.1 c with c|c
      .have:=h2 g c o;unfold below at this hb⊢;omega
      .rw[uab]at c;rw[c];exact .inr ⟨rfl,dad _⟩) l.length (-1,0) (-1,0) (by omega) ⟨rfl,0,sab _,rfl,.inl ⟨rfl,λf hf=>by simp at hf⟩⟩
 rcases t with⟨x,y,g1,g2,rfl,g3⟩|⟨_,_,_,_,h⟩
 .unfold zm;rw[g1];simp only[naa];rcases g3 with⟨e,g3⟩|⟨k,hk,e,v,h2⟩
  .simp_all
  .subst e;rw[if_neg (by omega),Pa hk]
   grind
 simp_all
theorem ON{l:List GField}(hl:l.length<=1048576) {step:List GType×Int->Option (Ex (List GType×Int) (List GType) Unit)}
 (c:∀a b,step (a,b)=if b<(l.length:Int)then(idx l b).bind λd=>(app 16 a ([d.Type_])).bind λe=>some (Ex.go (e,(ca .i64 (b+1))))else some (Ex.brk a)):ja step (([]:List GType),0)=some (.inl (l.map (·.Type_))):=by
 refine Yg (λi=>((l.take i).map (·.Type_),(i:Int))) l.length _ (λi hi=>?_) ?_ rfl
 .have h2:(l.take i).length<=l.length:=by grind
  rw[c,if_pos (by omega),Pa hi,naa,kj (by grind),naa,Ha (by omega),Uaa,qaa hi]
  grind
 simp_all
def yK(s:GScope) (d:Int):List Bool:=(zaa s.Defs.length).map λ(k:Nat)=>wB s d (k:Int)
def iC(ms:GScope) (l:List Int):List Bool:=(zaa ms.Defs.length).map λ(k:Nat)=>l.any λm=>wB ms m (k:Int)
theorem zK{s:GScope}(c:ScOk s) {d:Int}(hd:0<=d/\d<(s.Defs.length:Int)) {f:Nat->Bool}{l:List Int}(hl:l.length<=1048576) (hm:∀x,x∈l↔Way s d x) {step:List Bool×Int->Option (Ex (List Bool×Int) (List Bool) Unit)}
 (c:∀a b,step (a,b)=if b<(l.length:Int)then(idx l b).bind λx=>(idx a x).bind λ_=>(put a x true).bind λq=>some (.go (q,ca .i64 (b+1)))else some (.brk a)) :
 (idx ((zaa s.Defs.length).map f) d).isSome=true/\∃q,put ((zaa s.Defs.length).map f) d true=some q/\ja step (q,0)=some (.inl ((zaa s.Defs.length).map λ(k:Nat)=>f k || wB s d (k:Int))):=by
 refine⟨by grind[uq],_,cu hd.1 hd.2,?_⟩;rw[sH hl (λx hx=>Nx ((hm x).1 hx)) _ c];congr 2;apply Qab;intro k _;rw[Bool.or_assoc];congr 1;unfold wB;congr 1;rw[gad,dab,dab,hm,oD]
theorem Gw{α:Type}{l:List α}{i:Int}(h:(idx l i).isSome=true):∃x,idx l i=some x:=Option.isSome_iff_exists.1 h
theorem I10_p{s:GScope}(c:ScOk s) {d:Int}(hd:0<=d/\d<(s.Defs.length:Int)) {f:Nat->Bool}:uh s.Name s.MemberScope s.Inputs s.Defs s.Rules ((zaa s.Defs.length).map f) d=some ((zaa s.Defs.length).map λ(k:Nat)=>f k || wB s d (k:Int)):=by
 obtain⟨l,h1,h2,e⟩:=Ml c d;obtain⟨m1,q,m2,m3⟩:=zK c hd (f:=f) h2 e (step:=zk l) (λa b=>by grind[zk]);obtain⟨x,hx⟩:=Gw m1
 grind[uh,Tc]
theorem TM{ms:GScope}{l:List Int}(hl:l.length<=1048576) (hm:∀m∈l,0<=m/\m<(ms.Defs.length:Int)) {step:List Bool×Int->Option (Ex (List Bool×Int) (List Bool) Unit)}{g:List Bool->Int->Option (List Bool)}
 (c:∀f:Nat->Bool,∀m∈l,g ((zaa ms.Defs.length).map f) m=some ((zaa ms.Defs.length).map λ(k:Nat)=>f k || wB ms m (k:Int)))
 (d:∀a b,step (a,b)=if b<(l.length:Int)then(idx l b).bind λx=>(g a x).bind λq=>some (.go (q,ca .i64 (b+1)))else some (.brk a)):ja step (raa ms.Defs.length false,0)=some (.inl (iC ms l)):=by
 refine Yg (λi=>(iC ms (l.take i),(i:Int))) l.length _ (λi hi=>?_) ?_ (by simp[iC,xB])
 .rw[d,if_pos (by omega),Pa hi,naa];unfold iC;rw[c _ _ (xaa hi),naa,Ha (by omega),Uaa,qaa hi]
  grind
 simp_all
noncomputable def VO(l:GLaw) (i:Nat) (hi:i<l.Scopes.length) (d:Int):GInterp_needs:=
 ⟨⟨l.Scopes[i].Name,l.Scopes[i].MemberScope,l.Scopes[i].Inputs,l.Scopes[i].Defs,l.Scopes[i].Rules⟩,⟨(gG l l.Scopes[i]).Name,(gG l l.Scopes[i]).MemberScope,(gG l l.Scopes[i]).Inputs,(gG l l.Scopes[i]).Defs,(gG l l.Scopes[i]).Rules⟩,yK l.Scopes[i] d,iC (gG l l.Scopes[i]) (PE l.Scopes[i] d)⟩
theorem yD{l:GLaw}(hl:LawOk l) (t:Valid l) (o:∀x∈l.Scopes,x.Rules.length<=64) {i:Nat}(hi:i<l.Scopes.length) {d:Int}(hd:0<=d/\d<(l.Scopes[i].Defs.length:Int)) {c:GCase}
 (v:Cc l (i:Int) c true d=some oS):Ud l (i:Int) c d=(Ag l (i:Int) c (VO l i hi d)).bind λj=>
 if¬j.2.2.Code=0 then
  some ((GValue.mk 0 0 0),0,j.2.2)
 else
 (idx j.1.Values d).bind λw=>
 (idx j.1.Rules d).bind λz=>
 some (w,z,(GEvalError.mk 0 0 0 0)):=by
 have hx:=ZI hl (xaa hi);have h:=VM hl l.Scopes[i];have k:=QE hl t hi (d:=d);have u:=mV hl t hi (d:=d);have hfx:=o _ (xaa hi);unfold Ud VO;rw[v,naa,if_neg (by simp[oS])];have s:Ql l (i:Int)=some (l.Scopes[i].Name,l.Scopes[i].MemberScope,l.Scopes[i].Inputs,l.Scopes[i].Defs,l.Scopes[i].Rules,(gG l l.Scopes[i]).Name,(gG l l.Scopes[i]).MemberScope,(gG l l.Scopes[i]).Inputs,(gG l l.Scopes[i]).Defs,(gG l l.Scopes[i]).Rules,raa l.Scopes[i].Defs.length false,raa (gG l l.Scopes[i]).Defs.length false):=by
  have hb:=(t.GM hi).1;have n:=hx.ok.defs;have e:=h.ok.defs;unfold Ql;rw[Pa hi,naa];generalize l.Scopes[i]=x at hb n e⊢;rw[nB (by omega) (by omega),naa];by_cases r:0<=x.MemberScope
  .have p:x.MemberScope<(l.Scopes.length:Int):=by
    grind[mB]
   unfold gG at e⊢;rw[dif_pos ⟨r,p⟩]at e⊢;rw[if_pos r,pn r p,naa,nB (by omega) (by omega)];rfl
  grind[gG]
 rw[s,naa];dsimp only;generalize gG l l.Scopes[i]=ms at h k⊢;generalize hxx:l.Scopes[i]=x at *;have n:=hx.ok.defs;have e:=h.ok.defs;have hI11:xk d x.Name x.MemberScope x.Inputs x.Defs x.Rules ms.Name ms.MemberScope ms.Inputs ms.Defs ms.Rules (raa x.Defs.length false) (raa ms.Defs.length false)=some (yK x d,iC ms (PE x d)):=by
  obtain⟨lt,A,h2,B⟩:=Ml hx.ok d;obtain⟨m1,q,m2,D⟩:=zK hx.ok hd (f:=λ_=>false) h2 B (step:=Dk lt) (λa b=>by grind[Dk]);obtain⟨y,C⟩:=Gw m1;unfold xk;rw[xB,C,naa,m2,naa,show Tc ⟨x.Name,x.MemberScope,x.Inputs,x.Defs,x.Rules⟩ d=some lt from A,naa,D,naa];dsimp only;rw[show Yh ⟨x.Name,x.MemberScope,x.Inputs,x.Defs,x.Rules⟩ d=some (PE x d)from vz hx.ok hd,naa];rw[TM (ms:=ms) (l:=PE x d) u k (g:=λa m=>uh ms.Name ms.MemberScope ms.Inputs ms.Defs ms.Rules a m) (λf m hm=>I10_p h.ok (k m hm)) (step:=Ak ms.Name ms.MemberScope ms.Inputs ms.Defs ms.Rules (PE x d)) (λa b=>by grind[Ak])]
  simp_all[yK]
 simp_all
theorem FM{l:GLaw}(m:Valid l) {x ms:GScope}(hx:ScE x) (f:ScE ms) {c:GCase}(hc:c.Members.length<=1048576) {w wm:List Bool}(hmk:w.length=x.Defs.length) (hmm:wm.length=ms.Defs.length) (i:Int) :
 ∃p,Ag l i c ⟨⟨x.Name,x.MemberScope,x.Inputs,x.Defs,x.Rules⟩,⟨ms.Name,ms.MemberScope,ms.Inputs,ms.Defs,ms.Rules⟩,w,wm⟩=some p/\(p.2.2.Code=0->ScopeR x.Defs.length p.1.Values p.1.Rules/\EnvOk p.2.1):=by
 have g:=f.ok.defs;unfold Ag;dsimp only;rw[ON (l:=ms.Defs) g (step:=Fk ⟨⟨x.Name,x.MemberScope,x.Inputs,x.Defs,x.Rules⟩,⟨ms.Name,ms.MemberScope,ms.Inputs,ms.Defs,ms.Rules⟩,w,wm⟩) (λa b=>by grind[Fk]),naa];dsimp only;have h:=IE (s:=Ek l c ⟨⟨x.Name,x.MemberScope,x.Inputs,x.Defs,x.Rules⟩,⟨ms.Name,ms.MemberScope,ms.Inputs,ms.Defs,ms.Rules⟩,w,wm⟩)
  (λa=>∃j:Nat,j<=c.Members.length/\a.2.2=(j:Int)/\a.1.length=j/\a.2.1.length=j) (λa=>(c.Members.length-a.2.2).toNat)
  (λa=>a.1.length=c.Members.length) (λa=>∃e:GEvalError,e.Code≠0/\a=(⟨[],[],[]⟩,⟨0,[],[],[],[],[]⟩,e)) (by
   rintro⟨k,q,a3⟩ ⟨j,j1,n,t,u⟩;dsimp only at n t u;subst n;unfold Ek;dsimp only;by_cases hj:j<c.Members.length
   case neg=>
    rw[if_neg (by omega)]
    grind
   rw[if_pos (by omega)];rw[Pa hj];simp only[naa];have he:EnvOk (GEnv.mk c.Date c.Members[j] [] [] [] l.Tables):=aK m rfl (by simp);rcases qP f he (w:=wm) (by omega) (j:Int)with⟨v,r,s1,o⟩|⟨e,d,s0,s1⟩
   .rw[show Ua ⟨ms.Name,ms.MemberScope,ms.Inputs,ms.Defs,ms.Rules⟩ _ _ _=_ from s1];simp only[naa,oS,not_true,if_false];rw[kj (by grind),naa,kj (by grind),naa,Ha (by omega)];exact .inl ⟨_,rfl,⟨j+1,by omega,rfl,by simp_all,by simp_all⟩,by grind⟩
   simp_all) (x:=(([]:List (List GValue)),([]:List GMemberResult),0)) ⟨0,sab _,rfl,rfl,rfl⟩
 rcases h with⟨⟨k,q⟩,g1,g4⟩|⟨a,g1,e,e0,rfl⟩
 .dsimp only at g4;rw[g1];simp only[naa];have he:EnvOk (GEnv.mk c.Date c.Inputs [] k (ms.Defs.map (·.Type_)) l.Tables):=aK m rfl (by simp_all);rcases qP hx he (w:=w) (by omega) (-1)with⟨v,r,s1,o⟩|⟨e,d,s0,s1⟩
  .rw[show Ua ⟨x.Name,x.MemberScope,x.Inputs,x.Defs,x.Rules⟩ _ _ _=_ from s1];simp only[naa,oS,not_true,if_false];exact⟨_,rfl,λ_=>⟨o,he.1,he.2⟩⟩
  simp_all
 simp_all
theorem HP{l:GLaw}(hl:LawOk l) (g:Valid l) (a:∀x∈l.Scopes,x.Rules.length<=64) {i:Nat}(hi:i<l.Scopes.length) {d:Int}(hd:0<=d/\d<(l.Scopes[i].Defs.length:Int)) {c:GCase}(hc:c.Members.length<=1048576)
 (b:Cc l (i:Int) c true d=some oS):∃p,Ud l (i:Int) c d=some p/\(p.2.2.Code=0->ZX p.1):=by
 rw[yD hl g a hi hd b];obtain⟨p,h,j⟩:=FM g (ZI hl (xaa hi)) (VM hl l.Scopes[i]) hc (w:=yK l.Scopes[i] d) (wm:=iC (gG l l.Scopes[i]) (PE l.Scopes[i] d)) (by simp[yK]) (by simp[iC]) (i:Int);unfold VO;rw[h,naa];by_cases f:p.2.2.Code=0
 case neg=>simp_all
 rw[if_neg (waa.2 f)];have e:=(j f).1;rw[pn hd.1 (by have:=e.vl;omega),naa,pn hd.1 (by have:=e.rl;omega)];exact⟨_,rfl,λ_=>e.vp _ (xaa _)⟩
def Ap(l:GLaw) (x:GScope):List GField×Bool:=if h:0<=x.MemberScope/\x.MemberScope<(l.Scopes.length:Int)then((l.Scopes[x.MemberScope.toNat]'(by omega)).Inputs,true)else([],false)
theorem Mw{l:GLaw}{i:Nat}(hi:i<l.Scopes.length):Yc l (i:Int)=some (Ap l l.Scopes[i]):=by
 unfold Yc Ap;rw[Pa hi];simp only[naa,G0];generalize l.Scopes[i]=x;by_cases h:0<=x.MemberScope/\x.MemberScope<(l.Scopes.length:Int)
 .have hc:decide (x.MemberScope<0\/(l.Scopes.length:Int)<=x.MemberScope)=false:=by simp_all
  simp_all[pn]
 grind
theorem SE{l:GLaw}{i:Nat}(hi:i<l.Scopes.length):rf l (i:Int)=some ((Ap l l.Scopes[i]).1,if(Ap l l.Scopes[i]).2=true then 8 else 0):=by
 unfold rf Ap;rw[Pa hi];simp only[naa,G0];generalize l.Scopes[i]=x;by_cases h:0<=x.MemberScope/\x.MemberScope<(l.Scopes.length:Int)
 .have hc:decide (x.MemberScope<0\/(l.Scopes.length:Int)<=x.MemberScope)=false:=by simp_all
  simp_all[pn]
 grind
def QY(l:GLaw) (x:GScope) (f:GFact):Option GType:=
 if f.Input = -1 then some ⟨1,0⟩else if f.Input<0 then none else((if f.Member = -1 then x.Inputs else(Ap l x).1)[f.Input.toNat]?).map (·.Type_)
noncomputable def PY(l:GLaw) (x:GScope) (members:Int) (f:GFact):Int:=
 if members<=f.Member then 6 else
 match QY l x f with
 |none=>6
 |some t=>if¬(f.Value.Kind=t.Kind/\f.Value.Enum=t.Enum)then 8 else if aR f.Value.N t l.Enums=false then 3 else 0
noncomputable def T5(l:GLaw) (x:GScope) (h:GHousehold) (i:Nat):Option (Int×Int):=
 match h.Facts[i]? with
 |some f=>if¬PY l x h.Members f=0 then some ((i:Int),PY l x h.Members f)else none
 |none=>none
theorem inO{n lo hi:Int}{α:Type}{k:Bool->Option α}:(oaa (α:=Bool) (if¬n<lo then some (decide (hi<n))else some true) k)=k (!(decide (lo<=n)&&decide (n<=hi))):=by
 grind[decide]
theorem D6{a b c d:Int}{α:Type}{k:Bool->Option α}:(oaa (α:=Bool) (if a=b then some (c !=d)else some true) k)=k (decide (¬(a=b/\c=d))):=by
 by_cases e:a=b
 .rw[if_pos e,naa];congr 1
  grind
 simp_all
theorem fac_p{l:GLaw}{h:GHousehold}{i:Nat}(hi:i<l.Scopes.length) (e:h.Scope=(i:Int)) (hl:h.Facts.length<=128):ja (xf l h (Ap l l.Scopes[i])) 0=some (Ki () (ff (T5 l l.Scopes[i] h) h.Facts.length)):=
 Th (λj=>(j:Int)) _ h.Facts.length () (λj hj _=>by
  unfold xf T5;rw[if_pos (by omega),Pa hj,qaa hj,e,Pa hi];simp only[naa];generalize h.Facts[j]=f;unfold PY;by_cases c:h.Members<=f.Member
  .rw[if_pos c,if_pos c,if_pos (by decide)];rfl
  rw[if_neg c,if_neg c];have d:(if f.Member=(-1)then some l.Scopes[i].Inputs else some (Ap l l.Scopes[i]).1)=some (if f.Member = -1 then l.Scopes[i].Inputs else(Ap l l.Scopes[i]).1):=by grind
  rw[d,naa];unfold QY;generalize (if f.Member = -1 then l.Scopes[i].Inputs else(Ap l l.Scopes[i]).1)=a;have fin:∀t:GType,(oaa (α:=Bool) (if f.Value.Kind=t.Kind then some (f.Value.Enum !=t.Enum)else some true) λg=>if g=true then some (Ex.ret (((j:Nat):Int),(8:Int)):Ex Int Unit (Int×Int))else(kd (GType.mk t.Kind t.Enum) l.Enums).bind λb=>oaa (α:=Bool) (if¬f.Value.N<b.1 then some (decide (b.2<f.Value.N))else some true) λk=>if k=true then some (Ex.ret (((j:Nat):Int),3))else some (Ex.go (ca .i64 ((j:Int)+1)))) =
   some (aD (((j+1:Nat):Int)) (if¬(if¬(f.Value.Kind=t.Kind/\f.Value.Enum=t.Enum)then(8:Int)else if aR f.Value.N t l.Enums=false then 3 else 0)=0 then some ((j:Int),(if¬(f.Value.Kind=t.Kind/\f.Value.Enum=t.Enum)then(8:Int)else if aR f.Value.N t l.Enums=false then 3 else 0))else none)):=by
   intro t;rw[D6,Ha (by omega)];by_cases h2:f.Value.Kind=t.Kind/\f.Value.Enum=t.Enum
   .rw[decide_eq_false (p:=¬(f.Value.Kind=t.Kind/\f.Value.Enum=t.Enum)) (λh=>h h2),if_neg (by simp),Om,naa,inO];simp only[h2,not_true,and_self,if_false];unfold aR;by_cases m:(decide ((ZP t l.Enums).1<=f.Value.N)&&decide (f.Value.N<=(ZP t l.Enums).2))=true
    all_goals simp_all[aD]
   .rw[decide_eq_true h2,if_pos rfl,if_pos h2,if_pos (by decide)];rfl
  by_cases h2:f.Input = -1
  .rw[if_neg (waa.2 h2),if_pos h2,naa];dsimp only;exact fin ⟨1,0⟩
  .rw[if_pos h2,if_neg h2,G0];by_cases m:f.Input<0\/(a.length:Int)<=f.Input
   .rw[decide_eq_true m,if_pos rfl,naa];dsimp only;have:(if f.Input<0 then none else(a[f.Input.toNat]?).map (·.Type_))=none:=by
     grind
    rw[this];dsimp only;rw[if_pos (by decide)];rfl
   simp_all[if_neg,pn]) (λ_=>by grind[xf])
noncomputable def BX(l:GLaw) (h:GHousehold):Int×Int:=
 match l.Scopes[h.Scope.toNat]? with
 |none=>(-1,6)
 |some x=>if h.Scope<0 then(-1,6)else if h.Id<0\/h.Members<0\/8<h.Members\/(h.Members≠0/\(Ap l x).2=false)then(-1,3)else
  if¬(Ky h.Facts).2=0 then Ky h.Facts else(ff (T5 l x h) h.Facts.length).getD (0,0)
theorem nest4{a b c d:Prop} [Decidable a] [Decidable b] [Decidable c] [Decidable d] {m:Bool}{α:Type}{k:Bool->Option α}:(oaa (α:=Bool) (if¬a then if¬b then if¬c then if¬d then some (!m)else some false else some true else some true else some true) k)=k (decide (a\/b\/c\/(¬d/\m=false))):=by
 by_cases a<;>by_cases b<;>by_cases c<;>by_cases d<;>cases m<;>simp[*]
theorem bg(l:GLaw) (h:GHousehold) (hl:l.Scopes.length<=1048576):Oc l h=some (BX l h):=by
 unfold Oc BX;rw[G0];by_cases hs:h.Scope<0\/(l.Scopes.length:Int)<=h.Scope
 .grind
 rw[if_neg (by simp_all)];obtain⟨i,hi⟩:=Cab (show 0<=h.Scope by omega);have a:i<l.Scopes.length:=by omega
 rw[hi,Mw a,naa,Int.toNat_natCast,qaa a];dsimp only;rw[nest4,if_neg (show¬((i:Int)<0) by omega)];by_cases hb:h.Id<0\/h.Members<0\/8<h.Members\/(¬h.Members=0/\(Ap l l.Scopes[i]).2=false)
 .simp_all
 rw[if_neg (by simp_all),if_neg hb,YA,naa];by_cases hf:(Ky h.Facts).2=0
 case neg=>simp_all
 rw[if_neg (waa.2 hf),if_neg (waa.2 hf),fac_p a hi (pE hf).len,naa];cases ff (T5 l l.Scopes[i] h) h.Facts.length<;>rfl
structure HhOk (l:GLaw) (h:GHousehold) (i:Nat):Prop where
 hi:i<l.Scopes.length
 sc:h.Scope=(i:Int)
 m:0<=h.Members/\h.Members<=8
 ms:h.Members≠0->(Ap l l.Scopes[i]).2=true
 f:FactsOk h.Facts
 t:∀f∈h.Facts,f.Member<h.Members/\∃t,QY l l.Scopes[i] f=some t/\f.Value.Kind=t.Kind/\f.Value.Enum=t.Enum/\aR f.Value.N t l.Enums=true
theorem FI{l:GLaw}{h:GHousehold}(hv:(BX l h).2=0):∃i,HhOk l h i:=by
 unfold BX at hv
 cases hx:l.Scopes[h.Scope.toNat]? with
 |none=>simp_all
 |some x=>
  rw[hx]at hv;dsimp only at hv;split at hv
  .omega
  split at hv
  .omega
  split at hv
  .omega
  rename_i h0 h1 h2;obtain⟨b,rfl⟩:=List.getElem?_eq_some_iff.1 hx;refine⟨h.Scope.toNat,b,by omega,by omega,λhm=>?_,pE (Aac.1 h2),λf hf=>?_⟩
  .simp_all
  .have hn:ff (T5 l l.Scopes[h.Scope.toNat] h) h.Facts.length=none:=by
    cases hff:ff (T5 l l.Scopes[h.Scope.toNat] h) h.Facts.length with
    |none=>rfl
    |some v=>
     grind[T5,Ob]
   obtain⟨k,hk,rfl⟩:=Aaa hf;have:=Jb.1 hn k hk;unfold T5 at this;rw[qaa hk]at this;dsimp only at this;split at this
   .cases this
   .rename_i a;have a:=Aac.1 a;unfold PY at a
    grind
noncomputable def eG(l:List GFact) (m i d r:Int):GValue×Bool:=(zm l m i d r).getD (⟨0,0,0⟩,false)
theorem aO{l:List GFact}(hl:l.length<=1048576) (m i d r:Int):zm l m i d r=some (eG l m i d r)/\
 ((eG l m i d r=(⟨0,0,0⟩,false)/\∀f∈l,fy m i d r f=false)\/∃f∈l,eG l m i d r=(f.Value,true)/\fy m i d r f=true/\∀g∈l,fy m i d r g=true->below g f):=by
 obtain⟨p,h1,h3⟩:=H6 hl m i d r
 grind[eG]
noncomputable def Gp(l:List GFact) (m:Int) (n:Nat) (d r:Int):List GValue×Bool:=
 if((zaa n).all λi=>(eG l m (i:Int) d r).2)=true then((zaa n).map λ(i:Nat)=>(eG l m (i:Int) d r).1,true)else([],false)
theorem X4{l:List GFact}{m:Int}{n:Nat}{d r:Int}:ff (λi=>if(eG l m (i:Int) d r).2=false then some (([],false):List GValue×Bool)else none) n=if((zaa n).all λi=>(eG l m (i:Int) d r).2)=true then none else some ([],false):=by
 by_cases h:((zaa n).all λi=>(eG l m (i:Int) d r).2)=true
 .simp_all[Jb]
 .rw[if_neg h]
  cases hf:ff (λi=>if(eG l m (i:Int) d r).2=false then some (([],false):List GValue×Bool)else none) n with
  |none=>
   grind[Jb]
  |some v=>
   grind[Ob]
theorem UF{l:List GFact}(hl:l.length<=1048576) {n:Nat}(hn:n<=1048576) (m d r:Int):je l m (n:Int) d r=some (Gp l m n d r):=by
 unfold je;rw[nB (by omega) (by omega),naa];have a:ja (Qd l m d r (raa n ⟨0,0,0⟩)) (raa n ⟨0,0,0⟩,0)=some (Ki ((zaa n).map λ(i:Nat)=>(eG l m (i:Int) d r).1) (ff (λi=>if(eG l m (i:Int) d r).2=false then some (([],false):List GValue×Bool)else none) n)):=by
  refine Th (step:=Qd l m d r (raa n ⟨0,0,0⟩)) (λt=>(((zaa n).map λ(i:Nat)=>(eG l m (i:Int) d r).1).take t++raa (n-t) ⟨0,0,0⟩,(t:Int))) _ n _ (λt ht _=>?_) (λ_=>?_) (by simp)
  .unfold Qd;dsimp only;rw[if_pos (by simp_all),(aO hl m (t:Int) d r).1,naa];by_cases h:(eG l m (t:Int) d r).2=false
   .rw[if_pos h,if_pos h];rfl
   .rw[if_neg h,if_neg h,Pa (by grind),naa,Ty (by grind),naa,Ha (by omega),lF ht];unfold aD;dsimp only;congr 3;rw[List.set_append_right _ _ (by grind),show t-(((zaa n).map λ(i:Nat)=>(eG l m (i:Int) d r).1).take t).length=0 by grind,show n-t=(n-(t+1))+1 by omega,List.replicate_succ,List.set_cons_zero];simp
  simp_all[Qd,wac]
 rw[a,X4];unfold Gp;split<;>rfl
noncomputable def prS(l:List GFact) (d r:Int) (m:Nat):Bool:=(eG l (m:Int) (-1) d r).2&&(decide ((eG l (m:Int) (-1) d r).1.Kind=1)&&((eG l (m:Int) (-1) d r).1.N==1))
theorem prS_eq{l:List GFact}{d r:Int}{m:Nat}:prS l d r m=((eG l (m:Int) (-1) d r).2&&(decide ((eG l (m:Int) (-1) d r).1.Kind=1)&&((eG l (m:Int) (-1) d r).1.N==1))):=rfl
noncomputable def Fp(h:GHousehold) (d r:Int):List Int:=((zaa (min (max h.Members 0) 8).toNat).filter (prS h.Facts d r)).map λ(m:Nat)=>(m:Int)
theorem dN{v:GValue}{b:Bool}{α:Type}{k:Bool->Option α}:(oaa (α:=Bool) (if b=true then if v.Kind=1 then some (v.N==1)else some false else some false) k)=k (b&&(decide (v.Kind=1)&&(v.N==1))):=by
 grind
theorem AK{h:GHousehold}(hl:h.Facts.length<=1048576) (d r:Int):Kg h d r=some (Fp h d r):=by
 obtain⟨n,hn⟩:∃n,(min (max h.Members 0) 8).toNat=n:=⟨_,rfl⟩;have hn8:n<=8:=by omega
 have bound:∀t,t<=n->(((zaa t).filter (prS h.Facts d r)).map λ(m:Nat)=>(m:Int)).length<=t:=by
  grind
 have e1:ja (Pe h d r) (([]:List Int),0)=some (.inl (Fp h d r)):=by
  refine Yg (λt=>(((zaa t).filter (prS h.Facts d r)).map λ(m:Nat)=>(m:Int),(t:Int))) n _ (λt ht=>?_) ?_ rfl
  .have:=bound t (by omega);unfold Pe;dsimp only;rw[if_pos (by omega),(aO hl (t:Int) (-1) d r).1,naa,dN,Ha (by omega),Sac]
   grind[prS_eq,kj]
  grind[Pe,Fp]
 grind[Kg]
noncomputable def zt(l:GLaw) (x:GScope) (h:GHousehold) (d r:Int):GCase×Int:=
 if d<0\/109572<d then(⟨0,[],[]⟩,3)else
 if(Gp h.Facts (-1) x.Inputs.length d r).2=false then(⟨0,[],[]⟩,6)else
 if((Fp h d r).all λm=>(Gp h.Facts m (Ap l x).1.length d r).2)=true then(⟨d,(Gp h.Facts (-1) x.Inputs.length d r).1,(Fp h d r).map λm=>(Gp h.Facts m (Ap l x).1.length d r).1⟩,0)else(⟨0,[],[]⟩,6)
theorem nV{L:List Int}(hL:L.length<=1048576) {v:Int->List GValue×Bool}{g:Int->Option (List GValue×Bool)}(d:∀m∈L,g m=some (v m)) {step:List (List GValue)×Int->Option (Ex (List (List GValue)×Int) (List (List GValue)) (GCase×Int))}
 (e:∀a b,step (a,b)=if b<(L.length:Int)then(idx L b).bind λm=>(g m).bind λx=>if x.2=false then some (.ret (⟨0,[],[]⟩,6))else(app 24 a ([x.1])).bind λq=>some (.go (q,ca .i64 (b+1)))else some (.brk a)) :
 ja step (([]:List (List GValue)),0)=some (if(L.all λm=>(v m).2)=true then .inl (L.map λm=>(v m).1)else .inr (⟨0,[],[]⟩,6)):=by
 have c:ja step (([]:List (List GValue)),0)=some (Ki (L.map λm=>(v m).1) (ff (λi=>if(L[i]?.any λm=>!(v m).2)=true then some ((⟨0,[],[]⟩,6):GCase×Int)else none) L.length)):=by
  refine Th (step:=step) (λt=>((L.map λm=>(v m).1).take t,(t:Int))) _ L.length _ (λt ht _=>?_) (λ_=>?_) (by simp)
  .rw[e,if_pos (by omega),Pa ht,naa,d _ (xaa ht),naa,qaa ht];simp only[Option.any_some];by_cases hv:(v L[t]).2=false
   .grind[aD]
   .rw[if_neg hv,kj (by grind),naa,Ha (by omega),Uaa]
    grind[aD]
  simp_all[wac]
 rw[c];by_cases ha:(L.all λm=>(v m).2)=true
 .rw[if_pos ha,Jb.2 (λi hi=>by
   simp_all)]
  rfl
 .rw[if_neg ha]
  cases hf:ff (λi=>if(L[i]?.any λm=>!(v m).2)=true then some ((⟨0,[],[]⟩,6):GCase×Int)else none) L.length with
  |none=>
   exfalso;apply ha;rw[Yaa];intro m hm;obtain⟨k,hk,rfl⟩:=Aaa hm
   grind[Jb]
  |some w=>
   obtain⟨k,_,h2,_⟩:=Ob.1 hf;split at h2
   .rw[←h2];rfl
   simp_all
theorem tH(h:GHousehold) (d r:Int):(Fp h d r).length<=8:=by
 grind[Fp]
theorem BK{l:GLaw}(hl:LawOk l) (x:GScope):(Ap l x).1.length<=1048576:=by
 unfold Ap;split
 .exact(hl.s _ (xaa _)).2.2.1
 simp
theorem rS{l:GLaw}(hl:LawOk l) (n:(oo l).Code=0) {h:GHousehold}(hv:(BX l h).2=0) {i:Nat}(hi:i<l.Scopes.length) (k:h.Scope=(i:Int)) (d r:Int):mh l h d r=some (zt l l.Scopes[i] h d r):=by
 have c:=(hl.s _ (xaa hi)).2.2.1;have e:=BK hl l.Scopes[i];have hml:=tH h d r;obtain⟨i',j⟩:=FI hv;have hf:h.Facts.length<=1048576:=by have:=j.f.len;omega
 unfold mh zt;rw[Ij hl,naa,gx n,if_neg (by simp),bg l h hl.ns,naa,if_neg (waa.2 hv),G0];by_cases hd:d<0\/109572<d
 .simp_all
 rw[if_neg (by simp_all),if_neg hd,k,Pa hi,naa,UF hf c,naa];by_cases hv:(Gp h.Facts (-1) l.Scopes[i].Inputs.length d r).2=false
 .simp_all
 rw[if_neg hv,if_neg hv,Mw hi,naa,AK hf d r,naa];rw[nV (L:=Fp h d r) (by omega) (v:=λm=>Gp h.Facts m (Ap l l.Scopes[i]).1.length d r) (g:=λm=>je h.Facts m ((Ap l l.Scopes[i]).1.length:Int) d r) (λm _=>UF hf e m d r) (step:=rj h d r (Ap l l.Scopes[i]) (Fp h d r)) (λa b=>by grind[rj]),naa]
 grind
def NS(l:GLaw) (fs:List GField) (vs:List GValue):Prop:=vs.length=fs.length/\∀j (h1:j<vs.length) (h2:j<fs.length),vs[j].Kind=fs[j].Type_.Kind/\vs[j].Enum=fs[j].Type_.Enum/\aR vs[j].N fs[j].Type_ l.Enums=true
theorem sw{l:GLaw}{fs:List GField}{vs:List GValue}(hl:fs.length<=1048576) (h:NS l fs vs):pe l vs fs=some (0,0):=by
 obtain⟨h1,h2⟩:=h;unfold pe;rw[if_neg (by omega),if_neg (by omega)];have:ja (qe l vs fs) 0=some (.inl ()):=by
  refine Yg (λi=>(i:Int)) vs.length _ (λi hi=>?_) ?_ rfl
  .obtain⟨a,b,c⟩:=h2 i hi (by omega);unfold qe;rw[if_pos (by omega),Pa hi,naa,Pa (by omega),naa,D6,decide_eq_false (p:=¬(vs[i].Kind=(fs[i]'(by omega)).Type_.Kind/\vs[i].Enum=(fs[i]'(by omega)).Type_.Enum)) (λh=>h ⟨a,b⟩),if_neg (by simp),Om,naa,inO]
   grind[aR,Ha]
  simp_all[qe]
 simp_all
theorem BP{l:GLaw}{x:GScope}{h:GHousehold}{i:Nat}(a:HhOk l h i) (hx:l.Scopes[i]'a.hi=x) {m:Int}{fs:List GField}(hm:fs=if m = -1 then x.Inputs else(Ap l x).1) {d r:Int}(hv:(Gp h.Facts m fs.length d r).2=true):NS l fs (Gp h.Facts m fs.length d r).1:=by
 unfold Gp at hv⊢;split at hv
 case isFalse=>grind
 rename_i ha;rw[if_pos ha];refine⟨by simp,λj b h2=>?_⟩;simp only[lab,List.length_range]at b;simp only[kac,mae];have hj:=Yaa.1 ha j (by simp_all);have hf:h.Facts.length<=1048576:=by have:=a.f.len;omega
 rcases(aO hf m (j:Int) d r).2 with⟨e,-⟩|⟨f,f1,f2,f3,-⟩
 .simp_all
 .rw[f2];dsimp only;obtain⟨-,t,t1,t2,t3,t4⟩:=a.t f f1;unfold fy at f3;simp only[Caa,decide_eq_true_eq]at f3;unfold QY at t1
  simp_all
theorem kO{l:GLaw}(hl:LawOk l) (q:(oo l).Code=0) {h:GHousehold}{i:Nat}(a:HhOk l h i) {d r:Int}(hc:(zt l (l.Scopes[i]'a.hi) h d r).2=0) {def_:Int}(hd:0<=def_/\def_<((l.Scopes[i]'a.hi).Defs.length:Int)) :
 Cc l (i:Int) (zt l (l.Scopes[i]'a.hi) h d r).1 true def_=some oS/\(zt l (l.Scopes[i]'a.hi) h d r).1.Members.length<=8:=by
 have hi:=a.hi;have e:=(hl.s _ (xaa hi)).2.2.1;have g:=BK hl l.Scopes[i];have hml:=tH h d r;have hns:=hl.ns;unfold zt at hc⊢;split at hc
 .omega
 rename_i p;rw[if_neg p];split at hc
 .omega
 rename_i h2;rw[if_neg h2];split at hc
 case isFalse=>omega
 rename_i n;rw[if_pos n];have h2:(Gp h.Facts (-1) l.Scopes[i].Inputs.length d r).2=true:=by simp_all
 have t:=BP a rfl (m:=-1) (fs:=l.Scopes[i].Inputs) (by simp) h2;refine⟨?_,by simp_all⟩;unfold Cc;rw[Ij hl,naa,if_neg (waa.2 q),Pa hi,naa];have b:(if¬(i:Int)<0 then if¬(l.Scopes.length:Int)<=(i:Int)then if true=true then if¬def_<0 then some (decide ((l.Scopes[i].Defs.length:Int)<=def_))else some true else some false else some true else some true)=some false:=by
  simp_all
 rw[b,naa,if_neg (by simp)];have c:si l (i:Int) ⟨d,(Gp h.Facts (-1) l.Scopes[i].Inputs.length d r).1,(Fp h d r).map λm=>(Gp h.Facts m (Ap l l.Scopes[i]).1.length d r).1⟩=some (0,0,0):=by
  unfold si;dsimp only;rw[G0,if_neg (by simp_all),G0,if_neg (by simp_all),Pa hi,naa,sw e t,naa,if_neg (by simp),SE hi,naa];have hlim:¬(if(Ap l l.Scopes[i]).2=true then(8:Int)else 0)<(((Fp h d r).map λm=>(Gp h.Facts m (Ap l l.Scopes[i]).1.length d r).1).length:Int):=by
   rw[lab];split
   .omega
   .rename_i hb;have hm0:h.Members=0:=Ead λo=>hb (a.ms o)
    grind[Fp]
  rw[if_neg hlim];have hlp:ja (Vf l ⟨d,(Gp h.Facts (-1) l.Scopes[i].Inputs.length d r).1,(Fp h d r).map λm=>(Gp h.Facts m (Ap l l.Scopes[i]).1.length d r).1⟩ ((Ap l l.Scopes[i]).1,if(Ap l l.Scopes[i]).2=true then 8 else 0)) 0=some (.inl ()):=by
   refine Yg (λi=>(i:Int)) (Fp h d r).length _ (λj hj=>?_) ?_ rfl
   .unfold Vf;dsimp only;rw[if_pos (by simp_all),Pa (by simp_all),naa];simp only[kac];have f:=xaa hj;have k:=Yaa.1 n _ f;have hne:(Fp h d r)[j]≠-1:=by
     grind[Fp]
    rw[sw g (BP a rfl (fs:=(Ap l l.Scopes[i]).1) (by simp_all) k),naa,if_neg (by simp),Ha (by omega)]
   simp_all[Vf]
  simp_all
 rw[c];rfl
structure ConfOk (l:GLaw) (i:Nat) (c:GPayConfig):Prop where
 v:(oo l).Code=0
 hi:i<l.Scopes.length
 d:0<=c.Def/\c.Def<((l.Scopes[i]'hi).Defs.length:Int)
 r:0<=c.Rounding/\c.Rounding<=5
theorem CT{l:GLaw}(h:LawOk l) {c:GPayConfig}{sc:Int}(hv:Ga l sc c=some 0):∃i:Nat,sc=(i:Int)/\ConfOk l i c:=by
 unfold Ga at hv;rw[Ij h,naa]at hv;by_cases a:(oo l).Code=0
 case neg=>simp_all
 rw[gx a,if_neg (by simp)]at hv;by_cases b:sc<0
 .grind
 by_cases h2:(l.Scopes.length:Int)<=sc
 .grind
 by_cases d:c.Def<0
 .grind
 obtain⟨i,rfl⟩:=Cab (show 0<=sc by omega);have hi:i<l.Scopes.length:=by omega
 rw[if_pos b,if_pos h2,if_pos d,Pa hi]at hv;simp only[naa]at hv;by_cases e:(l.Scopes[i].Defs.length:Int)<=c.Def
 .simp_all
 rw[decide_eq_false e,if_neg (by simp),pn (by omega) (by omega)]at hv;simp only[naa,rng]at hv;split at hv
 .grind
 by_cases f:0<=c.Rounding/\c.Rounding<=5
 .exact⟨i,rfl,a,hi,by omega,f⟩
 grind
noncomputable def Dg(l:GLaw) (i:Nat) (h:GHousehold) (def_ rec d:Int):GValue×Int:=
 match l.Scopes[i]? with
 |none=>(⟨0,0,0⟩,1)
 |some x=>
  if¬(zt l x h d rec).2=0 then(⟨0,0,0⟩,(zt l x h d rec).2)else
  ((((Ud l (i:Int) (zt l x h d rec).1 def_).getD (⟨0,0,0⟩,0,oS)).1),((Ud l (i:Int) (zt l x h d rec).1 def_).getD (⟨0,0,0⟩,0,oS)).2.2.Code)
structure Ctx (l:GLaw) (h:GHousehold) (c:GPayConfig) (i:Nat):Prop where
 ok:LawOk l
 GM:∀x∈l.Scopes,x.Rules.length<=64
 cf:ConfOk l i c
 hv:(BX l h).2=0
 sc:h.Scope=(i:Int)
theorem val0_b{v:GValue}(h:ZX v):-1000000000000000<=v.N/\v.N<=1000000000000000:=by
 rcases h with h|h
 .simp_all
 .have:=h.range;omega
def qt:Int->List GDateRange->Int->Prop
 |a,[],b=>a=b
 |a,p::l,b=>p.From=a/\p.From<p.To/\qt p.To l b
theorem LB{to:Int}:∀{a:Int}{l:List Int},a<to->l.Pairwise (·<·)->(∀x∈l,a<x/\x<to)->qt a (Sw to a l) to
 |a,[],h,_,_=>⟨rfl,h,rfl⟩
 |a,x::l,h,b,hm=>by
  rw[List.pairwise_cons]at b;have hx:=hm x (by simp);exact⟨rfl,hx.1,LB hx.2 b.2 λy c=>⟨b.1 y c,(hm y (by grind)).2⟩⟩
def Tu(v:Int->Int) (l:List GDateRange):Int:=(l.map λp=>v p.From*(p.To-p.From)).sum
def Hq(l:List GDateRange):Int:=(l.map λp=>p.To-p.From).sum
theorem Lp:∀{a b:Int}{l:List GDateRange},qt a l b->Hq l=b-a/\a<=b
 |a,b,[],h=>by simp only[qt]at h;grind[Hq]
 |a,b,p::l,h=>by
  obtain⟨h1,h2,c⟩:=h;obtain⟨h4,h5⟩:=Lp c
  grind[Hq]
theorem kS{v:Int->Int}{l:List GDateRange}{p:GDateRange}:Tu v (l++[p])=Tu v l+v p.From*(p.To-p.From):=by simp[Tu]
theorem xQ{l:List GDateRange}{p:GDateRange}:Hq (l++[p])=Hq l+(p.To-p.From):=by simp[Hq]
theorem PD:∀{a b:Int}{l:List GDateRange}(j:Nat),qt a l b->∃c,qt a (l.take j) c/\c<=b
 |a,b,l,0,h=>⟨a,by simp[qt],(Lp h).2⟩
 |a,b,[],j+1,h=>⟨b,by simp_all,dad _⟩
 |a,b,p::l,j+1,h=>by
  obtain⟨d,h2,e⟩:=h;obtain⟨c,f,g⟩:=PD j e;exact⟨c,⟨d,h2,f⟩,g⟩
theorem SG:∀{a b:Int}{l:List GDateRange},qt a l b->∀p∈l,a<=p.From/\p.From<p.To/\p.To<=b
 |a,b,[],h,p,c=>by simp at c
 |a,b,q::l,h,p,c=>by
  obtain⟨h1,h2,d⟩:=h;have h4:=(Lp d).2;rcases oab.1 c with rfl|c
  .omega
  .have:=SG d p c;omega
theorem mulb{n k:Int}{B:Nat}(h1:-(B:Int)<=n/\n<=B) (h2:0<=k):-(B*k)<=n*k/\n*k<=B*k:=by
 constructor
 .rw[←Int.neg_mul];simp_all[fac]
 simp_all[fac]
theorem UN{v:Int->Int}:∀{a b:Int}{l:List GDateRange},qt a l b->(∀p∈l,-1000000000000000<=v p.From/\v p.From<=1000000000000000)->-(1000000000000000*Hq l)<=Tu v l/\Tu v l<=1000000000000000*Hq l
 |a,b,[],h,hv=>by simp[Tu,Hq]
 |a,b,p::l,h,hv=>by
  obtain⟨h1,h2,c⟩:=h;have ih:=UN c λq hq=>hv q (by grind);have hp:=mulb (n:=v p.From) (k:=p.To-p.From) (B:=1000000000000000) (hv p (by simp)) (by omega)
  grind[Tu,Hq]
noncomputable def KA(v:Int->GValue×Int) (rounding:Int) (l:List GDateRange):Int×Int:=
 match ff (λj=>match l[j]? with|some p=>if¬(v p.From).2=0 then some (v p.From).2 else none|none=>none) l.length with
 |some e=>(0,e)
 |none=>(max (qO (Tu (λd=>(v d).1.N) l) (Hq l) rounding).1 0,0)
theorem eP{l:GLaw}{h:GHousehold}{c:GPayConfig}{i:Nat}(H:Ctx l h c i) (rec d:Int):∃q:GCase×Int,mh l h d rec=some q/\
 ((q.2≠0/\Dg l i h c.Def rec d=(⟨0,0,0⟩,q.2))\/(q.2=0/\∃p,Ud l h.Scope q.1 c.Def=some p/\Dg l i h c.Def rec d=(p.1,p.2.2.Code)/\(p.2.2.Code=0->ZX p.1))):=by
 have hi:=H.cf.hi;obtain⟨b,e⟩:=FI H.hv;have a:b=i:=by have:=e.sc;have:=H.sc;omega
 subst a;refine⟨zt l l.Scopes[b] h d rec,rS H.ok H.cf.v H.hv hi H.sc d rec,?_⟩;unfold Dg;rw[qaa hi];dsimp only;by_cases hc:(zt l l.Scopes[b] h d rec).2=0
 .right;refine⟨hc,?_⟩;obtain⟨f,k2⟩:=kO H.ok H.cf.v e hc H.cf.d;obtain⟨p,g,p3⟩:=HP H.ok (TF H.cf.v) H.GM hi H.cf.d (by omega) f;rw[if_neg (waa.2 hc),H.sc,g]
  simp_all
 simp_all
theorem iA{l:GLaw}{h:GHousehold}{c:GPayConfig}{i:Nat}(H:Ctx l h c i) (rec d:Int) (h0:(Dg l i h c.Def rec d).2=0):-1000000000000000<=(Dg l i h c.Def rec d).1.N/\(Dg l i h c.Def rec d).1.N<=1000000000000000:=by
 obtain⟨q,-,hq⟩:=eP H rec d;rcases hq with⟨q1,q2⟩|⟨-,p,-,p3,p4⟩
 all_goals simp_all[val0_b]
theorem SS{l:GLaw}{h:GHousehold}{c:GPayConfig}{i:Nat}(H:Ctx l h c i) {q:List GDateRange}{a b:Int}(hq:qt a q b) (hab:a<b/\b-a<=31) (hlen:q.length<=65536) (rec:Int) :
 Zm l h c q rec=some (KA (Dg l i h c.Def rec) c.Rounding q):=by
 have m:∀j (hj:j<q.length),(∀k,k<j->(match q[k]? with|some p=>if¬(Dg l i h c.Def rec p.From).2=0 then some (Dg l i h c.Def rec p.From).2 else none|none=>(none:Option Int))=none)->
  (0<=Hq (q.take j)/\Hq (q.take j)<=31)/\-(1000000000000000*Hq (q.take j))<=Tu (λd=>(Dg l i h c.Def rec d).1.N) (q.take j)/\Tu (λd=>(Dg l i h c.Def rec d).1.N) (q.take j)<=1000000000000000*Hq (q.take j):=by
  intro j hj hn;obtain⟨e,C,h2⟩:=PD j hq;obtain⟨h3,h4⟩:=Lp C;refine⟨by omega,UN C λp x=>?_⟩;obtain⟨k,hk,rfl⟩:=Aaa x;rw[vab]at hk;have:=hn k (by omega);rw[qaa (by omega)]at this
  simp_all[iA]
 have f:(∀k,k<q.length->(match q[k]? with|some p=>if¬(Dg l i h c.Def rec p.From).2=0 then some (Dg l i h c.Def rec p.From).2 else none|none=>(none:Option Int))=none)->
  -(1000000000000000*Hq q)<=Tu (λd=>(Dg l i h c.Def rec d).1.N) q/\Tu (λd=>(Dg l i h c.Def rec d).1.N) q<=1000000000000000*Hq q:=by
  intro hn;refine UN hq λp x=>?_;obtain⟨k,hk,rfl⟩:=Aaa x
  simp_all[iA]
 generalize G:Dg l i h c.Def rec=V at *;have w:∀j (hj:j<q.length),(∀k,k<j->(match q[k]? with|some p=>if¬(V p.From).2=0 then some (V p.From).2 else none|none=>(none:Option Int))=none)->
  (-1000000000000000<=(V q[j].From).1.N/\(V q[j].From).1.N<=1000000000000000\/¬(V q[j].From).2=0):=by
  intro j hj _;by_cases o:(V q[j].From).2=0
  .left;have:=iA H rec q[j].From (by simp_all)
   simp_all
  omega
 have F:ja (Xh l h c q rec) (0,0,0)=some (Ki (Tu (λd=>(V d).1.N) q,Hq q) (ff (λj=>(match q[j]? with|some p=>if¬(V p.From).2=0 then some (V p.From).2 else none|none=>(none:Option Int)).map λe=>((0:Int),e)) q.length)):=by
  refine Th (step:=Xh l h c q rec) (λj=>(Tu (λd=>(V d).1.N) (q.take j),Hq (q.take j),(j:Int))) _ q.length _ (λj hj hn=>?_) (λ_=>?_) rfl
  .have t:∀k,k<j->(match q[k]? with|some p=>if¬(V p.From).2=0 then some (V p.From).2 else none|none=>(none:Option Int))=none:=λk hk=>by
    simp_all
   obtain⟨s1,s2,s3⟩:=m j hj t;have hm:=SG hq _ (xaa hj);obtain⟨z,I,E⟩:=eP H rec q[j].From;rw[G]at E;have hb:=w j hj t;unfold Xh;dsimp only;rw[if_pos (by omega),Pa hj,naa,I,naa,qaa hj];dsimp only;rcases E with⟨u,A⟩|⟨u,p,A,D,y4⟩
   .rw[if_pos u,A,if_pos u];rfl
   .rw[if_neg (waa.2 u),A,naa];have yN:(V q[j].From).1=p.1:=by rw[D]
    have yC:(V q[j].From).2=p.2.2.Code:=by rw[D]
    by_cases o:p.2.2.Code=0
    .rw[if_neg (waa.2 o),yC,if_neg (waa.2 o)];have v:-1000000000000000<=p.1.N/\p.1.N<=1000000000000000:=by
      simp_all
     have y:=mulb (n:=p.1.N) (k:=q[j].To-q[j].From) (B:=1000000000000000) v (by omega);rw[show((1000000000000000:Nat):Int)=1000000000000000 from rfl]at y;rw[wid (n:=q[j].To-q[j].From) (by omega) (by omega),wid (n:=p.1.N*(q[j].To-q[j].From)) (by omega) (by omega),wid (by omega) (by omega),wid (by omega) (by omega),Ha (by omega),Uaa,qaa hj];simp only[Kab,kS,xQ,yN];rfl
    .rw[if_pos o,yC,if_pos o];rfl
  simp_all[Xh]
 have s:∀{ρ:Type} (g:Int->ρ),ff (λj=>(match q[j]? with|some p=>if¬(V p.From).2=0 then some (V p.From).2 else none|none=>(none:Option Int)).map g) q.length=(ff (λj=>match q[j]? with|some p=>if¬(V p.From).2=0 then some (V p.From).2 else none|none=>(none:Option Int)) q.length).map g:=λg=>G8 g;unfold Zm KA;rw[F,s];obtain⟨d1,d2⟩:=Lp hq
 cases hf:ff (λj=>match q[j]? with|some p=>if¬(V p.From).2=0 then some (V p.From).2 else none|none=>(none:Option Int)) q.length with
 |some e=>rfl
 |none=>
  have hw:=f (Jb.1 hf);simp only[Option.map_none,aN,naa];rw[Oj];simp only[naa];have hr:=H.cf.r
  grind[qO]
noncomputable def eQ(l:GLaw) (h:GHousehold) (rec:Int):List Int:=Ig ((Ig (ends (nH rec h.Facts))).filter Fo++(Ig (ends (bw l.Tables++Zv l.Scopes))).filter Fo)
noncomputable def pS(l:GLaw) (h:GHousehold) (m rec:Int):List GDateRange:=Sw (Zc m).1.To (Zc m).1.From ((eQ l h rec).filter (inside (Zc m).1))
theorem TO{m:Int}(hm:(Zc m).2=0):(Zc m).1.From<(Zc m).1.To/\(Zc m).1.To-(Zc m).1.From<=31/\0<=m/\m<=3599:=by
 grind[Zc,Al]
theorem DD{l:GLaw}(hl:LawOk l) (GM:∀x∈l.Scopes,x.Rules.length<=64) {h:GHousehold}(hh:h.Facts.length<=1048576) {c:GPayConfig}(hc:c.Calendar.Holidays.length<=1048576) :
 ∃b,Ie l h c=some b/\(b=true->∃i,Ctx l h c i):=by
 obtain⟨n,e⟩:=HJ hl hc h.Scope;unfold Ie;rw[e,bg l h hl.ns];simp only[naa];by_cases d:n=0
 .rw[if_neg (waa.2 d)];refine⟨_,rfl,λhb=>?_⟩;subst d;obtain⟨i,hi,a⟩:=CT hl e;exact⟨i,hl,GM,a,by simp_all,hi⟩
 simp_all
noncomputable def JD(l:GLaw) (h:GHousehold) (c:GPayConfig) (m rec:Int):GAward:=
 if¬(Zc m).2=0 then⟨m,0,3⟩else if(Ie l h c).getD false=false then⟨m,0,1⟩else
 ⟨m,(KA (Dg l h.Scope.toNat h c.Def rec) c.Rounding (pS l h m rec)).1,(KA (Dg l h.Scope.toNat h c.Def rec) c.Rounding (pS l h m rec)).2⟩
theorem cd_p{l:GLaw}{h:GHousehold}(rec:Int) (hl:FewR l) (hh:h.Facts.length<=40):Hb l h rec=some (eQ l h rec)/\(eQ l h rec).Pairwise (·<·)/\(eQ l h rec).length<=65536/\
 ∀x,x∈eQ l h rec↔(x∈ends (nH rec h.Facts)/\Fo x=true)\/(x∈ends (bw l.Tables++Zv l.Scopes)/\Fo x=true):=by
 have k1:=cy (l:=h.Facts) rec (by omega);have k2:=Eu hl;have n1:=eab Fo (Ig (ends (nH rec h.Facts)));have n2:=vu (ends (nH rec h.Facts));have n3:=Iq (nH rec h.Facts);have n4:=JI rec h.Facts;have m1:=eab Fo (Ig (ends (bw l.Tables++Zv l.Scopes)));have m2:=vu (ends (bw l.Tables++Zv l.Scopes));have a:=Iq (bw l.Tables++Zv l.Scopes);have m4:=yA hl.t;have m5:=tA hl.s;have m6:=hl.nt;have m7:=hl.ns;rw[Taa]at a;have hcd:Hb l h rec=some (eQ l h rec):=by
  grind[Hb,eQ,lst,BT,rP]
 grind[eQ,dh]
theorem rB{l:GLaw}{h:GHousehold}{m rec:Int}(hm:(Zc m).2=0) (hl:FewR l) (a:h.Facts.length<=40):qt (Zc m).1.From (pS l h m rec) (Zc m).1.To/\(pS l h m rec).length<=65537:=by
 obtain⟨-,h2,h3,-⟩:=cd_p (l:=l) (h:=h) rec hl a;have hr:=uB hm
 grind[inside,pS,LB,CH]
theorem K0{l:GLaw}{h:GHousehold}{m rec:Int}(hm:(Zc m).2=0) (hl:FewR l) (d:h.Facts.length<=40):(pS l h m rec).length<=65536:=by
 obtain⟨c,h2⟩:=rB (rec:=rec) hm hl d;have hr:=uB hm;have:∀{a b:Int} {q:List GDateRange},qt a q b->(q.length:Int)<=b-a:=by
  intro a b q
  induction q generalizing a with
  |nil=>intro h;simp only[qt]at h;simp_all
  |cons p q ih=>
   intro h;obtain⟨e1,e2,e3⟩:=h
   grind
 have h4:=this c;have h5:(Zc m).1.To-(Zc m).1.From<=31:=by
  unfold Zc at hm⊢;split at hm
  .rename_i hc;rw[if_pos hc];have:=Nl (y:=1900+((m.toNat / 12:Nat):Int)) (m:=((m.toNat % 12:Nat):Int)+1)
   grind
  omega
 omega
theorem zR{m:Int}:(Zc m).2=0↔0<=m/\m<=3599:=by
 grind[Zc]
theorem oJ{l:GLaw}(hl:LawOk l) (d:FewR l) {h:GHousehold}(g:h.Facts.length<=40) {c:GPayConfig}(hc:c.Calendar.Holidays.length<=1048576) {a b:Int}(hab:0<=a/\a<=b/\b<=3600/\b-a<=120) (rec:Int) :
 Wd l h c a b rec=some ((zaa (b-a).toNat).map λ(j:Nat)=>JD l h c (a+j) rec):=by
 obtain⟨v,o,u⟩:=DD hl (λx hx=>Oab (d.s x hx) (by decide)) (h:=h) (by omega) hc;obtain⟨n,hn⟩:∃n,(b-a).toNat=n:=⟨_,rfl⟩;unfold Wd;rw[if_pos (by omega),if_pos (by omega),if_pos (by omega),wid (n:=b-a) (by omega) (by omega),naa,if_neg (by simp_all)];have k:Nw 24 (GAward.mk 0 0 0) 0 (b-a)=some []:=by
  grind[Nw]
 rw[k,naa,o,naa];obtain⟨d1,d2,p,-⟩:=cd_p (l:=l) (h:=h) rec d g;have f:(if v=true then(Hb l h rec).bind λw=>some (true,w)else some (false,([]:List Int)))=some (v,if v=true then eQ l h rec else []):=by
  grind
 rw[f,naa];dsimp only;have hlp:ja (Df l h c b rec (if v=true then eQ l h rec else [])) (([]:List GAward),v,a)=some (.inl ((zaa n).map λ(j:Nat)=>JD l h c (a+j) rec)):=by
  refine Yg (λj=>((zaa j).map λ(j:Nat)=>JD l h c (a+j) rec,v,a+(j:Int))) n _ (λj hj=>?_) ?_ (by simp)
  .have hm:(Zc (a+j)).2=0:=zR.2 (by omega);have hr:=uB hm;obtain⟨r,t,q4,q5⟩:=TO hm;unfold Df;dsimp only;rw[if_pos (by omega),AG,naa,if_neg (waa.2 hm)];have hw:ca .i64 (a+(j:Int)+1)=a+((j+1:Nat):Int):=by grind[wid]
   have hone:(if v=true then(bn (Zc (a+j)).1 (if v=true then eQ l h rec else [])).bind λm=>(Zm l h c m rec).bind λe=>some (true,e.1,e.2)else some (false,(0:Int),(1:Int)))=some (v,(JD l h c (a+j) rec).Cents,(JD l h c (a+j) rec).Code):=by
    unfold JD;rw[if_neg (waa.2 hm),o,Rab]
    cases v with
    |false=>rfl
    |true=>
     obtain⟨i,H⟩:=u rfl;have hi:h.Scope.toNat=i:=by have:=H.sc;omega
     obtain⟨c1,-⟩:=rB (rec:=rec) hm d g;have q:=SS H c1 ⟨r,t⟩ (K0 hm d g) rec;rw[if_pos rfl,if_pos rfl,if_neg (by simp),KD d2 p hr,naa,hi];rw[show Sw (Zc (a+j)).1.To (Zc (a+j)).1.From ((eQ l h rec).filter (inside (Zc (a+j)).1))=pS l h (a+j) rec from rfl,q];rfl
   grind[JD,kj,Sac]
  grind[Df]
 simp_all
theorem NA{l:GLaw}{h:GHousehold}{c:GPayConfig}{m rec:Int}:(JD l h c m rec).Month=m:=by
 grind[JD]
theorem JJ{w D mode L U:Int}(hD:1<=D/\D<=31) (hm:0<=mode/\mode<=5) (hw:-31000000000000000<=w/\w<=31000000000000000) (a:L*D<=w) (hU:w<=U*D):L<=(qO w D mode).1/\(qO w D mode).1<=U:=by
 have e:(qO w D mode).1=EG mode (w / D) (w % D) D:=by
  obtain⟨d,rfl⟩:=Cab (show 0<=D by omega);unfold qO;rw[if_neg (waa.2 hm),if_neg (by omega),if_neg (by omega)]
  grind[Wy]
 rw[e];have hr:=mN mode (w / D) (w % D) D;have hr0:=Int.emod_nonneg w (show D≠0 by omega);have hdm:=Int.mul_ediv_add_emod w D;constructor
 .have:L<=w / D:=(Int.le_ediv_iff_mul_le (by omega)).2 a;omega
 .have hq:w / D<=U:=by
   have:=Int.ediv_le_ediv (show 0<D by omega) hU
   grind[Int.mul_ediv_cancel]
  rcases Int.lt_or_eq_of_le hq with h|h
  .omega
  .have h0:w % D=0:=by
    grind
   unfold EG;rw[if_neg (by unfold qS;omega)];omega
theorem CA{v:Int->Int}{L U:Int}:∀{a b:Int}{l:List GDateRange},qt a l b->(∀p∈l,L<=v p.From/\v p.From<=U)->L*Hq l<=Tu v l/\Tu v l<=U*Hq l
 |a,b,[],h,hv=>by simp[Tu,Hq]
 |a,b,p::l,h,hv=>by
  obtain⟨h1,h2,d⟩:=h;have e:=CA d λq hq=>hv q (by grind);have c:=hv p (by simp);have m1:=fac c.1 (show 0<=p.To-p.From by omega);have m2:=fac c.2 (show 0<=p.To-p.From by omega);simp only[Tu,Hq,List.map_cons,List.sum_cons]at e⊢
  grind
theorem B7{v:Int->GValue×Int}{r:Int}{l:List GDateRange}(h:(KA v r l).2=0):(∀p∈l,(v p.From).2=0)/\(KA v r l).1=max (qO (Tu (λd=>(v d).1.N) l) (Hq l) r).1 0:=by
 unfold KA at h⊢;split at h
 .grind[Ob]
 .rename_i hf;refine⟨λp a=>?_,rfl⟩;obtain⟨k,hk,rfl⟩:=Aaa a
  simp_all[Jb]
theorem eY{v:Int->GValue×Int}{r:Int}{l:List GDateRange}(h:(KA v r l).2≠0):(KA v r l).1=0:=by
 unfold KA at h⊢
 grind
theorem VS{l:GLaw}{h:GHousehold}{c:GPayConfig}{m rec:Int}(a:(JD l h c m rec).Code=0):(Zc m).2=0/\(Ie l h c).getD false=true/\JD l h c m rec=⟨m,(KA (Dg l h.Scope.toNat h c.Def rec) c.Rounding (pS l h m rec)).1,(KA (Dg l h.Scope.toNat h c.Def rec) c.Rounding (pS l h m rec)).2⟩:=by
 unfold JD at a⊢
 grind
end Go.Proofs.Dev
namespace Go.Tm
def zp(l:List Int) (k:Nat):Int:=l.getD k 0
def swp(l:List Int) (i j:Nat):List Int:=(l.set i (zp l j)).set j (zp l i)
def Hp(l:List Int) (n:Nat):Prop:=∀k,0<k->k<n->zp l ((k-1) / 2)<=zp l k
def HpU(l:List Int) (j:Nat):Prop:=(∀k,0<k->k<l.length->k≠j->zp l ((k-1) / 2)<=zp l k)/\(∀k,0<j->0<k->k<l.length->(k-1) / 2=j->zp l ((j-1) / 2)<=zp l k)
def R6(l:List Int) (n i:Nat):Prop:=(∀k,0<k->k<n->(k-1) / 2≠i->zp l ((k-1) / 2)<=zp l k)/\(∀k,0<i->0<k->k<n->(k-1) / 2=i->zp l ((i-1) / 2)<=zp l k)
theorem qj{l:List Int}{k:Nat}(h:k<l.length):zp l k=l[k]:=by grind[zp]
theorem wA{l:List Int}{i j:Nat}:(swp l i j).length=l.length:=by simp[swp]
theorem Pl{l:List Int}{i j k:Nat}(hi:i<l.length) (hj:j<l.length):zp (swp l i j) k=if k=j then zp l i else if k=i then zp l j else zp l k:=by
 grind[swp,zp]
theorem cx{l:List Int}{i j:Nat}(hi:i<l.length) (hj:j<l.length):(swp l i j).Perm l:=by
 grind[swp,qj]
theorem uX{l:List Int}{j:Nat}(h:HpU l j) (hj:j=0\/zp l ((j-1) / 2)<=zp l j):Hp l l.length:=by
 intro k a b;by_cases hk:k=j
 .grind
 .exact h.1 k a b hk
theorem up_go{l:List Int}{j:Nat}(h:HpU l j) (hj:0<j) (hl:j<l.length) (hlt:zp l j<zp l ((j-1) / 2)):HpU (swp l ((j-1) / 2) j) ((j-1) / 2):=by
 have c:(j-1) / 2<l.length:=by omega
 refine⟨λk b a h2=>?_,λk b a h2 h3=>?_⟩
 .rw[wA]at a;rw[Pl c hl,Pl c hl];by_cases hk:k=j
  .omega
  .rw[if_neg hk,if_neg h2];by_cases d:(k-1) / 2=j
   .rw[if_pos d];exact h.2 k hj b a d
   .rw[if_neg d];by_cases f:(k-1) / 2=(j-1) / 2
    .rw[if_pos f];have:=h.1 k b a hk
     grind
    .rw[if_neg f];exact h.1 k b a hk
 .rw[wA]at h2;rw[Pl c hl,Pl c hl];have e:zp l (((j-1) / 2-1) / 2)<=zp l ((j-1) / 2):=h.1 _ b c (by omega);rw[if_neg (by omega),if_neg (by omega)];by_cases hk:k=j
  .omega
  .rw[if_neg hk,if_neg (by omega)];have:=h.1 k a h2 hk
   grind
theorem push_U{l:List Int}{x:Int}(h:Hp l l.length):HpU (l++[x]) l.length:=by
 refine⟨λk a b h2=>?_,λk a b h2 h3=>?_⟩
 .have hk:k<l.length:=by grind
  have e:∀q,q<l.length->zp (l++[x]) q=zp l q:=λq hq=>by grind[qj]
  rw[e _ (by omega),e _ hk];exact h k a hk
 grind
def Cm(l:List Int) (n i j:Nat):Prop:=0<j/\j<n/\(j-1) / 2=i/\∀k,0<k->k<n->(k-1) / 2=i->zp l j<=zp l k
theorem cm_1{l:List Int}{n i:Nat}(a:2*i+1<n) (h:2*i+2<n->zp l (2*i+1)<=zp l (2*i+2)):Cm l n i (2*i+1):=by
 refine⟨by omega,a,by omega,λk h0 h2 h3=>?_⟩
 grind
theorem cm_2{l:List Int}{n i:Nat}(a:2*i+2<n) (h:zp l (2*i+2)<zp l (2*i+1)):Cm l n i (2*i+2):=by
 refine⟨by omega,a,by omega,λk h0 h2 h3=>?_⟩
 grind
theorem uQ{l:List Int}{n i:Nat}(h:R6 l n i) (hn:n<=2*i+1):Hp l n:=λk a b=>h.1 k a b (by omega)
theorem aE{l:List Int}{n i j:Nat}(h:R6 l n i) (hc:Cm l n i j) (hle:zp l i<=zp l j):Hp l n:=by
 intro k a b;by_cases hk:(k-1) / 2=i
 .have:=hc.2.2.2 k a b hk
  grind
 .exact h.1 k a b hk
theorem jI{l:List Int}{n i j:Nat}(h:R6 l n i) (hn:n<=l.length) (hc:Cm l n i j) (hlt:zp l j<zp l i):R6 (swp l i j) n j:=by
 obtain⟨c0,c1,c2,c3⟩:=hc;have hi:i<l.length:=by omega
 have hj:j<l.length:=by omega
 refine⟨λk b c h2=>?_,λk b c h2 h3=>?_⟩
 .rw[Pl hi hj,Pl hi hj,if_neg h2];by_cases hk:k=j
  .omega
  .rw[if_neg hk];by_cases a:k=i
   .subst a;rw[if_neg (by omega),if_pos rfl];exact h.2 j b c0 c1 c2
   .rw[if_neg a];by_cases d:(k-1) / 2=i
    .simp_all
    .rw[if_neg d];exact h.1 k b c d
 .rw[Pl hi hj,Pl hi hj,if_neg (by omega),if_pos c2,if_neg (by omega),if_neg (by omega)];have:=h.1 k c h2 (by omega)
  simp_all
theorem pop_D{l:List Int}{n:Nat}(h:Hp l l.length) (hl:l.length=n+1):R6 (swp l 0 n) n 0:=by
 refine⟨λk a h1 h2=>?_,λk a=>absurd a (by omega)⟩;rw[Pl (by omega) (by omega),Pl (by omega) (by omega),if_neg (by omega),if_neg h2,if_neg (by omega),if_neg (by omega)];exact h k a (by omega)
theorem C9{l:List Int}{n:Nat}(h:Hp l n):∀k,k<n->zp l 0<=zp l k:=by
 intro k
 induction k using Nat.strongRecOn with
 |ind k a=>
  intro hk;by_cases h0:k=0
  .simp_all
  .have h1:=a ((k-1) / 2) (by omega) (by omega);have h2:=h k (by omega) hk;omega
theorem oZ{l:List Int}{n:Nat}(h:Hp l n) (hn:n<=l.length):Hp (l.take n) (l.take n).length:=by
 intro k a b;rw[vab]at b;have e:∀q,q<n->zp (l.take n) q=zp l q:=λq hq=>by
  grind[qj]
 rw[e _ (by omega),e _ (by omega)];exact h k a (by omega)
end Go.Tm
namespace Go.Proofs.Dev
open Go Go.Tm
structure GOk (g:List (List Int)):Prop where
 len:g.length<=1048576
 inr:∀l∈g,∀e∈l,0<=e/\e<g.length
 nd:∀l∈g,l.Nodup
theorem pB:∀{n:Nat}{l:List Int},l.Nodup->(∀x∈l,0<=x/\x<(n:Int))->l.length<=n
 |0,l,_,h=>by
  cases l with
  |nil=>simp
  |cons x l=>grind[jad]
 |n+1,l,hd,h=>by
  by_cases hm:(n:Int)∈l
  .have h1:=pB (n:=n) (l:=l.erase n) (hd.erase _) (λx hx=>by
    grind)
   simp_all
  .have:=pB (n:=n) (l:=l) hd (λx hx=>by
    grind)
   omega
def Qg(g:List (List Int)) (i d:Nat):List Int:=((zaa i).filter λe=>(g.getD e []).contains (d:Int)).map λ(e:Nat)=>(e:Int)
def Pp(g:List (List Int)) (i j d:Nat):List Int:=Qg g i d++if((g.getD i []).take j).contains (d:Int)then [(i:Int)]else []
theorem qQ{g:List (List Int)}{d:Nat}:Qg g 0 d=[]:=rfl
theorem rQ{g:List (List Int)}{i d:Nat}:Pp g i 0 d=Qg g i d:=by simp[Pp]
theorem pQ{g:List (List Int)}{i d:Nat}:Qg g (i+1) d=Pp g i (g.getD i []).length d:=by
 grind[Qg,Pp,Sac]
theorem WG{g:List (List Int)}{i j d:Nat}(hj:j<(g.getD i []).length) (hnd:(g.getD i []).Nodup):Pp g i (j+1) d=if(g.getD i [])[j]=(d:Int)then Pp g i j d++[(i:Int)]else Pp g i j d:=by
 unfold Pp;rw[Uaa,qaa hj,Kab];by_cases h:(g.getD i [])[j]=(d:Int)
 .rw[if_pos h];have h1:((g.getD i []).take j++[(g.getD i [])[j]]).contains (d:Int)=true:=dab.2 (bab.2 (.inr (by simp_all)));have h2:((g.getD i []).take j).contains (d:Int)=false:=by
   rw[←Zac,dab]
   grind[Aaa,Mab]
  simp_all
 grind
theorem ZD{g:List (List Int)}{i d:Nat}:(Qg g i d).length<=i:=by
 grind[Qg]
theorem XT{g:List (List Int)}{i j d:Nat}:(Pp g i j d).length<=i+1:=by
 grind[Pp,ZD]
def lN(g:List (List Int)) (i:Nat):List Int:=((zaa i).filter λe=>(g.getD e []).isEmpty).map λ(e:Nat)=>(e:Int)
theorem OK{g:List (List Int)}{i:Nat}:lN g (i+1)=if(g.getD i [])=[]then lN g i++[(i:Int)]else lN g i:=by
 grind[lN,Sac]
theorem C1{g:List (List Int)}{i:Nat}:(lN g i).length<=i:=by
 grind[lN]
def Nz(g:List (List Int)) (i:Nat):List Int:=(zaa g.length).map λe=>if e<i then((g.getD e []).length:Int)else 0
theorem dR{g:List (List Int)}:Nz g 0=raa g.length 0:=by
 unfold Nz;apply Yab<;>simp
theorem cR{g:List (List Int)}{i:Nat}(hi:i<g.length):(Nz g i).set i ((g.getD i []).length:Int)=Nz g (i+1):=by
 unfold Nz;apply Yab
 all_goals grind
def xC(g:List (List Int)) (out:List Int) (e:Nat):Int:=(((g.getD e []).filter λd=>!out.contains d).length:Int)
def lK(g:List (List Int)) (out:List Int):List Int:=(zaa g.length).map λe=>xC g out e
def kP(g:List (List Int)) (out:List Int):List Int:=((zaa g.length).filter (PK g out)).map λ(d:Nat)=>(d:Int)
structure J2 (g:List (List Int)) (out l:List Int):Prop where
 nd:out.Nodup
 inr:∀x∈out,0<=x/\x<(g.length:Int)
 tT:∀d:Nat,(d:Int)∈out->∀e∈g.getD d [],e∈out
 perm:l.Perm (kP g out)
 ord:It g (g.length-out.length) out=au g
theorem mD{g:List (List Int)}{out:List Int}{x:Int}:x∈kP g out↔∃d:Nat,x=d/\d<g.length/\(d:Int)∉out/\∀e∈g.getD d [],e∈out:=by
 unfold kP;rw[fab];constructor
 .rintro⟨d,hd,rfl⟩;rw[hac,Kac]at hd;obtain⟨a,h2⟩:=hd;unfold PK at h2
  grind
 .rintro⟨d,rfl,a,h2,h3⟩;refine⟨d,?_,rfl⟩
  simp_all[PK]
theorem iW{g:List (List Int)}{out:List Int}:(kP g out).Nodup:=by
 grind[kP,Kad,mad]
theorem j2_0{g:List (List Int)}{l:List Int}(h:l.Perm (lN g g.length)):J2 g [] l:=by
 refine⟨List.nodup_nil,λx h=>(Sad h).elim,λd h=>(Sad h).elim,?_,by rw[List.length_nil,Nat.sub_zero];rfl⟩;have:lN g g.length=kP g []:=by
  unfold lN kP;congr 1;refine Lad λd _=>?_;unfold PK;cases hq:g.getD d []<;>simp
 simp_all
theorem L9{g:List (List Int)}:Nz g g.length=lK g []:=by
 unfold Nz lK;refine Qab λe he=>?_;rw[if_pos (Kac.1 he)]
 grind[xC,List.filter_eq_self]
theorem O9{g:List (List Int)}{out:List Int}(h:J2 g out []):au g=if out.length<g.length then([],9)else(out,0):=by
 rw[←h.ord];have hl:out.length<=g.length:=pB h.nd h.inr;have he:kP g out=[]:=List.Perm.eq_nil (h.perm.symm);split
 .rename_i hlt;obtain⟨k,hk⟩:∃k,g.length-out.length=k+1:=⟨g.length-out.length-1,by omega⟩;rw[hk];unfold It;have hf:(zaa g.length).find? (PK g out)=none:=by
   rw[List.find?_eq_none];intro d hd hr;have:(d:Int)∈kP g out:=by
    unfold kP
    grind
   simp_all
  rw[hf]
 .rw[show g.length-out.length=0 by omega];rfl
def Vv(g:List (List Int)) (out:List Int) (d k:Nat):List Int:=(zaa g.length).map λe=>xC g out e-if((Qg g g.length d).take k).contains (e:Int)then 1 else 0
def cA(g:List (List Int)) (out:List Int) (d k:Nat):List Int:=((Qg g g.length d).take k).filter λe=>xC g out e.toNat==1
theorem Kw{g:List (List Int)}{d:Nat}{x:Int}:x∈Qg g g.length d↔∃e:Nat,x=e/\e<g.length/\(d:Int)∈g.getD e []:=by
 unfold Qg
 grind
theorem oO{g:List (List Int)}{d:Nat}:(Qg g g.length d).Nodup:=by
 grind[Qg,Kad,mad]
theorem K9{g:List (List Int)}{out:List Int}{d:Nat}:Vv g out d 0=lK g out:=by
 grind[Vv,lK]
theorem UW{l:List Int}(hnd:l.Nodup) {k:Nat}(hk:k<l.length):(l.take k).contains l[k]=false:=by
 rw[←Zac,dab]
 grind[Aaa,Mab]
theorem PU{g:List (List Int)}{out:List Int}{d k e:Nat}(hk:k<(Qg g g.length d).length) (he:(Qg g g.length d)[k]=(e:Int)) (hl:e<g.length):(Vv g out d k)[e]?=some (xC g out e):=by
 grind[Vv,UW,oO]
theorem lH{g:List (List Int)}{out:List Int}{d k e:Nat}(hk:k<(Qg g g.length d).length) (he:(Qg g g.length d)[k]=(e:Int)):(Vv g out d k).set e (xC g out e-1)=Vv g out d (k+1):=by
 unfold Vv;apply Yab
 .simp
 .intro q h1 h2;rw[List.getElem_set];simp only[kac,mae];rw[Uaa,qaa hk,Kab,he]
  grind
theorem newK_0{g:List (List Int)}{out:List Int}{d:Nat}:cA g out d 0=[]:=rfl
theorem wH{g:List (List Int)}{out:List Int}{d k e:Nat}(hk:k<(Qg g g.length d).length) (he:(Qg g g.length d)[k]=(e:Int)):cA g out d (k+1)=if xC g out e=1 then cA g out d k++[(e:Int)]else cA g out d k:=by
 unfold cA;rw[Uaa,qaa hk,Kab,he,Jab]
 grind
theorem tV{g:List (List Int)}{out:List Int}{d k:Nat}:(cA g out d k).length<=g.length:=by
 grind[cA,ZD]
theorem B9{g:List (List Int)}{e:Nat}(h:e<g.length):g.getD e []∈g:=by
 simp_all
theorem RD{g:List (List Int)}(b:GOk g) {out:List Int}{d e:Nat}(he:e<g.length) (hd:(d:Int)∉out):xC g (out++[(d:Int)]) e=xC g out e-if(Qg g g.length d).contains (e:Int)then 1 else 0:=by
 unfold xC;have hn:=b.nd _ (B9 he);have hc:(Qg g g.length d).contains (e:Int)=(g.getD e []).contains (d:Int):=by
  rw[gad,dab,dab,Kw]
  grind
 rw[hc];generalize g.getD e []=l at hn
 induction l with
 |nil=>rfl
 |cons a l ih=>
  grind
theorem uT{g:List (List Int)}{out:List Int}{e:Nat}(h:∀q∈g.getD e [],q∈out):xC g out e=0:=by
 grind[xC,Mac]
theorem jQ{g:List (List Int)}{out:List Int}{e:Nat}(h:xC g out e=0):∀q∈g.getD e [],q∈out:=by
 grind[xC,Qaa,Mac]
theorem P9{g:List (List Int)}(A:GOk g) {x:Int}{l l' out:List Int}(h:J2 g out l) (C:(x::l').Perm l) (hmin:∀y∈l',x<=y) :
 ∃d:Nat,x=d/\d<g.length/\Vv g out d (Qg g g.length d).length=lK g (out++[x])/\out.length<g.length/\∀n,n.Perm (l'++cA g out d (Qg g g.length d).length)->J2 g (out++[x]) n:=by
 have s:=C.trans h.perm;obtain⟨d,rfl,u,m,hde⟩:=mD.1 (s.mem_iff.1 (jad ..));have i:(out++[(d:Int)]).Nodup:=by
  rw[Nad];refine⟨h.nd,by simp,λa ha b hb=>?_⟩
  grind
 have f:∀x∈out++[(d:Int)],0<=x/\x<(g.length:Int):=λx hx=>by
  rcases bab.1 hx with c|c
  .exact h.inr x c
  simp_all
 have r:out.length<g.length:=by
  have:=pB i f
  grind
 have w:(d:Int)∉l'/\l'.Nodup:=List.nodup_cons.1 ((s.nodup_iff).2 iW);refine⟨d,rfl,u,?_,r,λn p=>⟨i,f,?_,?_,?_⟩⟩
 .simp_all[Vv,lK,RD]
 .intro q hq e he;rcases bab.1 hq with c|c
  .exact cae _ (h.tT q c e he)
  grind
 .refine p.trans ?_;have v:(cA g out d (Qg g g.length d).length).Nodup:=by
   grind[cA,oO]
  have j:∀y,y∈cA g out d (Qg g g.length d).length↔∃e:Nat,y=e/\e<g.length/\(d:Int)∈g.getD e []/\xC g out e=1:=by
   intro y;unfold cA;rw[List.take_length,hac,Kw]
   grind
  have D:∀y,y∈l'↔y∈kP g out/\y≠d:=by
   grind
  rw[List.perm_ext_iff_of_nodup ?_ iW]
  .intro y;rw[bab,D,j,mD,mD];constructor
   .rintro(⟨⟨e,rfl,c,h2,o⟩,B⟩|⟨e,rfl,c,h2,o⟩)
    .grind
    .refine⟨e,rfl,c,λhm=>?_,?_⟩
     .rcases bab.1 hm with t|t
      .exact m (h.tT e t d h2)
      grind
     .refine jQ ?_;rw[RD A c m,if_pos (dab.2 (Kw.2 ⟨e,rfl,c,h2⟩)),o];rfl
   .rintro⟨e,rfl,c,h2,o⟩;have B:(e:Int)∉out:=λhm=>h2 (cae _ hm);have t:(e:Int)≠d:=λhm=>h2 (List.mem_append_right _ (uab.2 hm));by_cases z:(d:Int)∈g.getD e []
    .refine .inr ⟨e,rfl,c,z,?_⟩;have:=uT o;rw[RD A c m,if_pos (dab.2 (Kw.2 ⟨e,rfl,c,z⟩))]at this;omega
    grind
  .rw[Nad];refine⟨w.2,v,λa ha b hb e=>?_⟩;subst e;obtain⟨e,rfl,c,h2,o⟩:=(j a).1 hb
   grind[mD]
 .rw[←h.ord];obtain⟨k,hk⟩:∃k,g.length-out.length=k+1:=⟨g.length-out.length-1,by omega⟩;rw[hk,Taa,Eab,show g.length-(out.length+1)=k by omega];have hf:(zaa g.length).find? (PK g out)=some d:=by
   have hr:∀e:Nat,e<g.length->(PK g out e=true↔(e:Int)∈kP g out):=by
    intro e he;unfold kP
    grind
   rw[List.find?_range_eq_some]
   grind
  rw[It,hf]
end Go.Proofs.Dev
set_option maxRecDepth 100000
namespace Go.Proofs.Dev
open Go Go.Tm
noncomputable def ah(j:List Int):((List Bool)×(List Int)×Int)->Option (Ex ((List Bool)×(List Int)×Int) ((List Bool)×(List Int)) Unit):=λ(c,f,a)=>
 if a<(j.length:Int)then
  oaa (α:=((List Bool)×(List Int))) (
   (idx j a).bind λb=>
   (idx c b).bind λg=>
   if g=false then
    (put c b true).bind λh=>
    (app 8 f ([b])).bind λi=>
    some (h,i)
   else
   some (c,f)) λ(d,e)=>
  some (Ex.go (d,e,(ca .i64 (a+1))))
 else
 some (Ex.brk (c,f))
noncomputable def Ef(t0:(List (List Int))):((List Bool)×(List Int))->Option (Ex ((List Bool)×(List Int)) (List Bool) Unit):=λ(s2,c)=>
 if 0<(c.length:Int)then
  (idx c 0).bind λd=>
  (Zy c 1).bind λe=>
  (idx t0 d).bind λf=>
  (ja (ah f) (s2,e,0)).bind λy=>match y with
  |.inr _=>none
  |.inl (a,b)=>
  some (Ex.go (a,b))
 else
 some (Ex.brk s2)
noncomputable def bh(c:List Bool):((List Int)×Int)->Option (Ex ((List Int)×Int) (List Int) Unit):=λ(b,a)=>
 if a<(c.length:Int)then
  oaa (α:=(List Int)) (
   (idx c a).bind λe=>
   if e=true then
    (app 8 b ([a])).bind λf=>
    some f
   else
   some b) λd=>
  some (Ex.go (d,(ca .i64 (a+1))))
 else
 some (Ex.brk b)
noncomputable def nq(t0:(List (List Int))) (t1:Int):Option (List Int):=
 (Nw 1 false (t0.length:Int) (t0.length:Int)).bind λc=>
 (ja (Ef t0) (c,[t1])).bind λy=>match y with
 |.inr _=>none
 |.inl a=>
 (ja (bh a) (([]:List Int),0)).bind λy=>match y with
 |.inr _=>none
 |.inl b=>
 some b
def visit(p:List Bool×List Int) (e:Int):List Bool×List Int:=if p.1[e.toNat]?=some true then p else(p.1.set e.toNat true,p.2++[e])
def Sn(s:List Bool) (b:Int):Prop:=s[b.toNat]?=some true
instance (s:List Bool) (b:Int):Decidable (Sn s b):=by unfold Sn;infer_instance
def cF(s:List Bool):Nat:=s.count false
theorem ZS:∀{s:List Bool}{i:Nat},s[i]?=some false->cF (s.set i true)+1=cF s
 |[],i,h=>by simp at h
 |b::s,0,h=>by simp at h;subst h;simp[cF]
 |b::s,i+1,h=>by
  have:=ZS (s:=s) (i:=i) (by simpa using h);unfold cF at this⊢;simp only[List.set_cons_succ,List.count_cons];omega
theorem cF_le(s:List Bool):cF s<=s.length:=List.count_le_length
structure Ok (n:Nat) (p:List Bool×List Int):Prop where
 len:p.1.length=n
 q:∀x∈p.2,0<=x/\x<n
 m:p.2.length+cF p.1<=n+1
theorem GL{n:Nat}{p:List Bool×List Int}{e:Int}(h:Ok n p) (f:0<=e) (g:e<n) :
 Ok n (visit p e)/\(visit p e).2.length+cF (visit p e).1=p.2.length+cF p.1/\(∀b,0<=b->(Sn (visit p e).1 b↔Sn p.1 b\/b=e))/\(∀x,x∈(visit p e).2↔x∈p.2\/(x=e/\¬Sn p.1 e)):=by
 unfold visit;split
 .rename_i c;refine⟨h,rfl,λb hb=>⟨.inl,λh=>?_⟩,λx=>⟨.inl,λh=>?_⟩⟩
  .rcases h with h|rfl
   .exact h
   .exact c
  .rcases h with h|⟨rfl,h⟩
   .exact h
   .exact(h c).elim
 .rename_i c;have d:e.toNat<p.1.length:=by rw[h.len];omega
  have hf:p.1[e.toNat]?=some false:=by
   rw[qaa d]at c⊢
   cases hb:p.1[e.toNat]with
   |true=>rw[hb]at c;exact(c rfl).elim
   |false=>rfl
  have hc:=ZS hf;have hm:=h.m;refine⟨⟨by simp[h.len],λx hx=>?_,?_⟩,?_,λb hb=>?_,λx=>?_⟩
  .rcases bab.1 hx with hx|hx
   .exact h.q x hx
   .rw[uab]at hx;subst hx;exact⟨f,g⟩
  .simp only[Taa,Eab];omega
  .simp only[Taa,Eab];omega
  .unfold Sn;rw[List.getElem?_set];by_cases a:e.toNat=b.toNat
   .rw[if_pos a,if_pos d];exact⟨λ_=>.inr (by omega),λ_=>rfl⟩
   .rw[if_neg a];exact⟨.inl,λh=>h.elim id λh=>(a (by rw[h])).elim⟩
  .rw[bab,uab];exact⟨λh=>h.imp id λh=>⟨h,c⟩,λh=>h.imp id λh=>h.1⟩
theorem LH{n:Nat}:∀{l:List Int}{p:List Bool×List Int},Ok n p->(∀e∈l,0<=e/\e<n)->
 Ok n (l.foldl visit p)/\(l.foldl visit p).2.length+cF (l.foldl visit p).1=p.2.length+cF p.1/\(∀b,0<=b->(Sn (l.foldl visit p).1 b↔Sn p.1 b\/b∈l))/\(∀x,x∈(l.foldl visit p).2↔x∈p.2\/(x∈l/\¬Sn p.1 x))
 |[],p,h,_=>by simp[h]
 |e::l,p,h,hl=>by
  obtain⟨o,q⟩:=hl e (by simp);obtain⟨g,a2,d,i⟩:=GL h o q;obtain⟨j,b2,k,m⟩:=LH g (λx hx=>hl x (by simp[hx])) (l:=l);simp only[gab];refine⟨j,by omega,λb hb=>?_,λx=>?_⟩
  .rw[k b hb,d b hb,oab];constructor
   .rintro((h|h)|h)
    .exact .inl h
    .exact .inr (.inl h)
    .exact .inr (.inr h)
   .rintro(h|h|h)
    .exact .inl (.inl h)
    .exact .inl (.inr h)
    .exact .inr h
  .rw[m x,i x,oab];constructor
   .rintro((h|⟨rfl,h⟩)|⟨h,a⟩)
    .exact .inl h
    .exact .inr ⟨.inl rfl,h⟩
    .exact .inr ⟨.inr h,λf=>a ((d x (hl x (by simp[h])).1).2 (.inl f))⟩
   .rintro(h|⟨rfl|h,a⟩)
    .exact .inl (.inl h)
    .exact .inl (.inr ⟨rfl,a⟩)
    .by_cases c:x=e
     .subst c;exact .inl (.inr ⟨rfl,a⟩)
     .exact .inr ⟨h,λf=>((d x (hl x (by simp[h])).1).1 f).elim a c⟩
theorem DP{i:Int}(h0:0<=i) (h1:i<9223372036854775807):ca .i64 (i+1)=i+1:=Xs ⟨by omega,by omega⟩
theorem y5{n:Nat}(hn:n<=1048576) {l:List Int}(hl:l.length<=1048576) (c:∀e∈l,0<=e/\e<n):∀(k:Nat) {p:List Bool×List Int}{i:Nat},l.length-i=k->Ok n p->
 ja (ah l) (p.1,p.2,(i:Int))=some (.inl ((l.drop i).foldl visit p))
 |0,p,i,hk,d=>by
  rw[vac (by omega)];refine Gb ?_;unfold ah;simp only;rw[if_neg (by omega)];rfl
 |k+1,p,i,hk,d=>by
  have hi:i<l.length:=by omega
  obtain⟨f,r⟩:=c l[i] (xaa hi);have a:l[i].toNat<p.1.length:=by rw[d.len];omega
  rw[mab hi,gab];have b:ah l (p.1,p.2,(i:Int))=some (.go ((visit p l[i]).1,(visit p l[i]).2,((i+1:Nat):Int))):=by
   unfold ah;simp only;rw[if_pos (by omega)];have g:idx l (i:Int)=some l[i]:=by simp[idx,hi]
   have h:idx p.1 l[i]=some p.1[l[i].toNat]:=by simp[idx,f,a]
   have j:ca .i64 ((i:Int)+1)=((i+1:Nat):Int):=by rw[DP (by omega) (by omega)];omega
   rw[g,naa,h,naa,j];unfold visit;rw[qaa a]
   cases hb:p.1[l[i].toNat]with
   |true=>simp
   |false=>
    have o:put p.1 l[i] true=some (p.1.set l[i].toNat true):=by simp[put,f,a]
    have q:app 8 p.2 [l[i]]=some (p.2++[l[i]]):=by
     have hm:=d.m;unfold app;rw[if_pos];simp only[Eab];omega
    rw[if_pos rfl,o,naa,q];simp
  rw[ud b];exact y5 hn hl c k (i:=i+1) (by omega) (GL d f r).1
def e7(g:List (List Int)) (a b:Int):Prop:=b=a\/ReachL g a b
structure Bfs (g:List (List Int)) (a:Int) (p:List Bool×List Int):Prop where
 ok:Ok g.length p
 sound:∀b,0<=b->Sn p.1 b->ReachL g a b
 qs:∀x∈p.2,e7 g a x
 done:∀b,0<=b->(b=a\/Sn p.1 b)->b∈p.2\/∀l,g[b.toNat]?=some l->∀c∈l,Sn p.1 c
theorem L7_eq{g:List (List Int)}{a:Int}(hn:g.length<=1048576) (z:∀l∈g,l.length<=1048576/\∀e∈l,0<=e/\e<g.length):∀(k:Nat) {p:List Bool×List Int},p.2.length+cF p.1=k->Bfs g a p->
 ∃s,ja (Ef g) p=some (.inl s)/\Bfs g a (s,[]):=by
 intro k
 induction k with
 |zero=>
  intro p hk f;obtain⟨s,q⟩:=p;have:q=[]:=Qaa (by dsimp only at hk;omega);subst this;exact⟨s,Gb (by simp[Ef]),f⟩
 |succ k D=>
  intro p hk f;obtain⟨s,q⟩:=p
  cases q with
  |nil=>exact⟨s,Gb (by simp[Ef]),f⟩
  |cons d q=>
   obtain⟨d0,d1⟩:=f.ok.q d (by simp);have hd:d.toNat<g.length:=by omega
   obtain⟨gl,ge⟩:=z g[d.toNat] (xaa hd);have o:Ok g.length (s,q):=⟨f.ok.len,λx hx=>f.ok.q x (by simp[hx]),by have:=f.ok.m;simp only[uaa]at this⊢;omega⟩;obtain⟨E,F,t,w⟩:=LH o ge (l:=g[d.toNat]);have j:Ef g (s,d::q)=some (.go (g[d.toNat].foldl visit (s,q))):=by
    unfold Ef;simp only;rw[if_pos (by simp)];have A:idx (d::q) 0=some d:=rfl;have B:Zy (d::q) 1=some q:=by simp[Zy]
    have C:idx g d=some g[d.toNat]:=by simp[idx,d0,hd]
    have y:=y5 hn gl ge _ (p:=(s,q)) (i:=0) rfl o;simp only[List.drop_zero,Rad]at y;rw[A,naa,B,naa,C,naa,y];rfl
   rw[ud j];have v:q.length+cF s=k:=by simp only[uaa]at hk;omega
   refine D (by rw[F];exact v) ⟨E,λb hb r=>?_,λx hx=>?_,λb hb u=>?_⟩
   .rcases(t b hb).1 r with h|h
    .exact f.sound b hb h
    .rcases f.qs d (by simp)with rfl|hr
     .exact .one (qaa hd) h
     .exact .step hr (qaa hd) h
   .rcases(w x).1 hx with h|⟨h,-⟩
    .exact f.qs x (by simp[h])
    .right;rcases f.qs d (by simp)with rfl|hr
     .exact .one (qaa hd) h
     .exact .step hr (qaa hd) h
   .have up:∀c,0<=c->Sn s c->Sn (g[d.toNat].foldl visit (s,q)).1 c:=λc hc h=>(t c hc).2 (.inl h);by_cases n:b=d
    .subst n;right;intro l hl c hc;rw[qaa hd]at hl;injection hl with hl;subst hl;exact(t c (ge c hc).1).2 (.inr hc)
    .have key:(b=a\/Sn s b)\/(b∈g[d.toNat]/\¬Sn s b):=by
      rcases u with h|h
      .exact .inl (.inl h)
      .rcases(t b hb).1 h with h|h
       .exact .inl (.inr h)
       .by_cases r:Sn s b
        .exact .inl (.inr r)
        .exact .inr ⟨h,r⟩
     rcases key with h|h
     .rcases f.done b hb h with h|h
      .rcases oab.1 h with h|h
       .exact(n h).elim
       .exact .inl ((w b).2 (.inl h))
      .right;intro l hl c hc;have hm:l∈g:=Hab hl;exact up c ((z l hm).2 c hc).1 (h l hl c hc)
     .exact .inl ((w b).2 (.inr h))
theorem A5{s:List Bool}(h:s.length<=1048576):∀(k:Nat) {i:Nat},s.length-i=k->i<=s.length->
 ja (bh s) (((zaa i).map λ(k:Nat)=>(k:Int)).filter (λb=>decide (Sn s b)),(i:Int))=some (.inl (((zaa s.length).map λ(k:Nat)=>(k:Int)).filter λb=>decide (Sn s b)))
 |0,i,hk,hi=>by
  have:i=s.length:=by omega
  subst this;refine Gb ?_;unfold bh;simp
 |k+1,i,hk,hi=>by
  have a:i<s.length:=by omega
  have hlen:(((zaa i).map λ(k:Nat)=>(k:Int)).filter (λb=>decide (Sn s b))).length<=i:=Oab (eab _ _) (by simp);have d:bh s (((zaa i).map λ(k:Nat)=>(k:Int)).filter (λb=>decide (Sn s b)),(i:Int))=some (.go (((zaa (i+1)).map λ(k:Nat)=>(k:Int)).filter (λb=>decide (Sn s b)),((i+1:Nat):Int))):=by
   unfold bh;simp only;rw[if_pos (by omega)];have e:idx s (i:Int)=some s[i]:=by simp[idx,a]
   have f:ca .i64 ((i:Int)+1)=((i+1:Nat):Int):=by rw[DP (by omega) (by omega)];omega
   rw[e,naa,f,Sac,List.map_append,Jab]
   cases hb:s[i]with
   |true=>
    have c:Sn s ((i:Nat):Int):=by unfold Sn;simp[a,hb]
    have g:app 8 (((zaa i).map λ(k:Nat)=>(k:Int)).filter (λb=>decide (Sn s b))) [(i:Int)]=some (((zaa i).map λ(k:Nat)=>(k:Int)).filter (λb=>decide (Sn s b))++[(i:Int)]):=by
     unfold app;rw[if_pos];simp only[Eab];omega
    rw[if_pos rfl,g];simp[c]
   |false=>
    have c:¬Sn s ((i:Nat):Int):=by unfold Sn;simp[a,hb]
    rw[if_neg (by simp)];simp[c]
  rw[ud d];exact A5 h k (i:=i+1) (by omega) (by omega)
theorem FR{t0:List (List Int)}{t1:Int}{r:List Int}(h:wi t0 t1=some r):nq t0 t1=some r:=by
 unfold wi at h;split at h
 .rename_i hc;obtain⟨hn,l,n,t⟩:=hc;obtain rfl:=Raa h;unfold nq;have p:Nw 1 false (t0.length:Int) (t0.length:Int)=some (raa t0.length false):=by
   unfold Nw;rw[if_pos ⟨by omega,by omega,by omega,by simp;omega⟩];simp
  have hb:Bfs t0 t1 (raa t0.length false,[t1]):=by
   have f:∀b,¬Sn (raa t0.length false) b:=λb hb=>by
    unfold Sn at hb;rw[List.getElem?_replicate]at hb;split at hb<;>simp at hb
   refine⟨⟨by simp,λx hx=>?_,?_⟩,λb _ g=>(f b g).elim,λx hx=>?_,λb _ g=>?_⟩
   .rw[uab]at hx;subst hx;exact⟨n,t⟩
   .have:=cF_le (raa t0.length false);simp only[List.length_replicate,Eab]at this⊢;omega
   .rw[uab]at hx;exact .inl hx
   .rcases g with rfl|g
    .exact .inl (by simp)
    .exact(f b g).elim
  obtain⟨s,q,hb⟩:=L7_eq hn l _ rfl hb;have e:s.length=t0.length:=hb.ok.len;have m:=A5 (s:=s) (by omega) _ (i:=0) rfl (by omega);simp only[List.range_zero,List.map_nil,List.filter_nil,Rad]at m;rw[p,naa,q,naa];simp only;rw[m,naa];simp only;rw[e];unfold mF;congr 1;apply Lad;intro b j;obtain⟨k,-,rfl⟩:=fab.1 j;have c:∀b,ReachL t0 t1 b->0<=b/\Sn s b:=by
   intro b hr
   induction hr with
   |one h d=>
    have hm:=Hab h;refine⟨((l _ hm).2 _ d).1,?_⟩;rcases hb.done t1 n (.inl rfl)with a|a
    .cases a
    .exact a _ h _ d
   |step _ hl hc o=>
    have hm:=Hab hl;refine⟨((l _ hm).2 _ hc).1,?_⟩;rcases hb.done _ o.1 (.inr o.2)with a|a
    .cases a
    .exact a _ hl _ hc
  exact decide_eq_decide.2 ⟨λh=>hb.sound _ (by omega) h,λh=>(c _ h).2⟩
 .cases h
end Go.Proofs.Dev
set_option maxRecDepth 10000
namespace Go.Proofs.Dev
open Go Go.Tm
def yL:GRule:=GRule.mk (yaa #[98,97,115,101]) 0 (-1) 0 (GDateRange.mk 0 109573) ([]) ([(GNode.mk 7 0)]) (yaa #[])
def Mh:GScope:=GScope.mk (yaa #[104,111,117,115,101]) (-1) ([(GField.mk (yaa #[97]) (GType.mk 3 0))]) ([(GField.mk (yaa #[100]) (GType.mk 3 0))]) [yL]
def pf:GLaw:=GLaw.mk ([]) ([]) [Mh]
def Vj:GFact:=GFact.mk 0 (-1) 0 (GValue.mk 3 0 500) (GDateRange.mk 0 109573) 0
def ug(l:List GFact):GHousehold:=GHousehold.mk 0 0 0 l
def Vi:GPayConfig:=GPayConfig.mk 0 0 1 0 0 0 0 (GCalendar.mk 0 ([]))
theorem H4:ko pf 0 Mh=(0,0):=by
 have hc:ff (oQ Mh) Mh.Defs.length=none:=Jb.2 λi hi=>by
  have:i=0:=by grind[Mh]
  subst this;unfold oQ;rw[if_neg];rw[←oD];have:(DL Mh 0 Mh.Defs.length).contains 0=false:=by kernel_rfl
  simp_all
 unfold ko;rw[hc];rfl
theorem cz:oo pf=⟨0,0,0,0⟩:=by
 unfold oo;simp only[show pf.Enums.length=0 from rfl,show pf.Tables.length=0 from rfl,show pf.Scopes.length=1 from rfl,ff];rw[show pf.Scopes[0]?=some Mh from rfl]
 grind[H4]
theorem NF:BX pf (ug [Vj])=(0,0):=by kernel_rfl
theorem Ur:LawOk pf:=by
 have a:ScOk Mh:=by constructor<;>simp[Mh,yL]
 constructor<;>simp[pf,a];simp[Mh,yL,Bd]
 decide
theorem AL:FewR pf:=by constructor<;>simp[pf,Mh]
theorem zL:Vd Vi.Calendar=some true:=by
 unfold Vd;rw[Gb (step:=ld Vi.Calendar) (b:=()) rfl];rfl
theorem hX{l:List GFact}(h:BX pf (ug l)=(0,0)):Ie pf (ug l) Vi=some true:=by
 unfold Ie Ga;rw[Ij Ur,bg _ _ Ur.ns,h,cz,zL];rfl
end Go.Proofs.Dev
