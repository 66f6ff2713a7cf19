/-
  The functions as plain partial functions, and plain lemmas about them: no condition.
-/
import Derived.Test.YtadinajclolmnaaGreatDoorPC
open Option renaming some->M,none->u4
open Decidable renaming decide->D1
open Go.Tm.Ex renaming go->n?,brk->o?,ret->v?
open Bool renaming and_eq_true->D?,eq_iff_iff->kai,false_eq_true->M',not_eq_true->gai,not_true->Z?,true_eq_false->hag,true->a29,false->a30
open Classical renaming not_not->E!
open Decidable renaming byContradiction->Hai,not_not->Kah
open Int renaming eq_ofNat_of_zero_le->wag,le_refl->Dai,lt_or_gt_of_ne->paj,mul_le_mul_of_nonneg_right->lah,natCast_zero->Yai,reduceBEq->rag,reduceEq->l!
open List renaming all_eq_true->Λ,contains_iff_mem->Saf,drop_eq_getElem_cons->Eaf,drop_eq_nil_of_le->Vag,eq_nil_of_length_eq_zero->vaf,ext_getElem->Yag,filter_append->Jag,filter_congr->Mai,filter_eq_nil_iff->Vah,foldl_cons->Yaf,getElem?_eq_getElem->x!,getElem_map->Uah,getElem_mem->E',getElem_of_mem->O',getElem_range->taj,length_append->G!,length_cons->w!,length_eq_zero_iff->Sai,length_filter_le->Zaf,length_map->Kaf,length_singleton->yag,length_take->U',map_congr_left->cag,mem_append->Ρ,mem_append_left->haj,mem_cons->X',mem_cons_self->Wah,mem_filter->nah,mem_map->V!,mem_of_getElem?->mag,mem_range->Fah,mem_singleton->pag,nodup_append->Pai,not_mem_nil->pah,pairwise_iff_getElem->Fag,pairwise_lt_range->oai,range->s?,range_succ->xah,replicate->h!,take_add_one->Ι,take_of_length_le->Ψ,length->a00
open List.Pairwise renaming imp->xaj
open Nat renaming le_trans->Lag,zero_le->Q?
open Option renaming bind->e?,bind_some->b?,getD_some->aah,toList_some->Uag
open Option.some renaming inj->R'
set_option linter.all false
set_option maxRecDepth 10000
set_option maxHeartbeats 1000000
namespace Go.Proofs.Dev
open Go Go.Tm
variable {op b N d m rec:Int}{a:Prop}{x ms:fr}{env:ll}{e:List ia}{α:Type}{w:List Bool}{f:Nat->Bool}{step:List Bool×Int->Option (Ex (List Bool×Int) (List Bool) Unit)}{p:js}{k:Bool->Option α}{t:ek}{fs:List mu}{y:α}
theorem bb4{a b:bz}(c:op=13\/op=14\/op=15\/op=16):eb op a b=M (decide
 ((op=13/\b.a=2/\(a.a=2\/a.a=3))\/(op=14/\b.a=4/\(a.a=3\/a.a=4))\/(op=15/\((b.a=2/\(a.a=2\/a.a=3))\/(a.a=3/\b.a=3)))\/(op=16/\a.a=3/\b.a=3))):=by
 rcases c with rfl|rfl|rfl|rfl<;>simp only[eb,l!,B?,G1,b?,rag,M',false_and,aaD,false_or,or_false]
 .grind
 .grind
 .by_cases g1:b.a=2
  .by_cases g2:a.a=2<;>by_cases g3:a.a=3<;>simp[g1,g2,g3]
  grind
 grind
theorem H5{x y:Int}(hx:-1000000000000000<=x/\x<=1000000000000000) (hy:-1000000000000000<=y/\y<=1000000000000000):xr x y=M (if(x*y).natAbs<=1000000000000000 then(x*y,0)else(0,3)):=by
 unfold xr;rw[SH U U,SH U U,UY U U,b?];dsimp only;have hn:x.natAbs*y.natAbs=(x*y).natAbs:=(Int.natAbs_mul x y).symm;have hb:(x*y).natAbs<=1000000000000000*1000000000000000:=by rw[←hn];exact Nat.mul_le_mul U U
 rw[hn];obtain⟨p,e⟩:∃p,(x*y).natAbs=p:=⟨_,rfl⟩;rw[e]at hb⊢;have hs:¬(x*y).natAbs=0->(¬(D1 (x<0))=(D1 (y<0))↔x*y<0):=by
  intro h0;have c:x≠0:=s5
  have h2:y≠0:=s5
  rcases paj c with a|a<;>rcases paj h2 with b|b
  .grind
  .have:=Int.mul_neg_of_neg_of_pos a b
   grind
  .have:=Int.mul_neg_of_pos_of_neg a b
   grind
  grind
 by_cases d:p<=1000000000000000
 .rw[J d];have c:p / 18446744073709551616=0:=U
  have h2:p % 18446744073709551616=p:=U
  rw[c,h2,J (by rfl),b?,s7 s5,m? (n:=(p:Int)) U U,m? U U]
  grind
 grind
theorem aF{a b:bz}(f:op=13\/op=14\/op=15\/op=16) (ha:Vc a) (hb:Vc b):pw (Ah ⟨op,N⟩ [a,b] env):=by
 have h1:=ha.range;have h2:=hb.range;have c:ta ⟨op,N⟩ [a,b] env=_:=(WN U).trans (bb4 f);have d:Ja ⟨op,N⟩ [a,b] env=Lg ⟨op,N⟩ a b:=by
  rw[zF U];rcases f with rfl|rfl|rfl|rfl<;>simp only[vc,l!,rag,B?,G1,M',b?,mM]
 rcases f with rfl|rfl|rfl|rfl
 .simp only[l!,aaD,false_and,or_false]at c;have hq:Lg ⟨13,N⟩ a b=M (⟨a.a,0,(if(a.N*b.N).natAbs<=1000000000000000 then(a.N*b.N,(0:Int))else(0,3)).1⟩,(if(a.N*b.N).natAbs<=1000000000000000 then(a.N*b.N,(0:Int))else(0,3)).2):=by
   simp_all[Lg,H5]
  grind[pw.ite]
 .simp only[l!,aaD,false_and,or_false,false_or]at c;by_cases hc:b.a=4/\(a.a=3\/a.a=4)
  .rw[D2 hc]at c;rcases hc with⟨c1,c2|c2⟩
   .refine Tj (v:=⟨a.a,0,(mdS a.N b.N 1000000 N).1⟩) (e:=(mdS a.N b.N 1000000 N).2) c (d.trans ?_)
    simp_all[Lg,jP]
   .refine Tj (v:=⟨a.a,0,(ao5 a.N b.N N).1⟩) (e:=(ao5 a.N b.N N).2) c (d.trans ?_)
    simp_all[Lg,bW]
  grind[Vu]
 .simp only[l!,aaD,false_and,or_false,false_or]at c;by_cases hc:(b.a=2/\(a.a=2\/a.a=3))\/(a.a=3/\b.a=3)
  .rw[D2 hc]at c;rcases hc with⟨c1,c2⟩|⟨c1,c2⟩
   .refine Tj (v:=⟨a.a,0,(CX a.N b.N N).1⟩) (e:=(CX a.N b.N N).2) c (d.trans ?_)
    simp_all[Lg,Uk]
   .refine Tj (v:=⟨4,0,(frS a.N b.N N).1⟩) (e:=(frS a.N b.N N).2) c (d.trans ?_)
    simp_all[Lg,dG]
  grind[Vu]
 .simp only[l!,aaD,false_and,or_false,false_or]at c;refine pw.ite (v:=⟨a.a,0,(rtS a.N b.N N).1⟩) (e:=(rtS a.N b.N N).2) c λhc=>d.trans ?_
  simp_all[Lg,qH]
theorem X4(hop:36<=op/\op<=39) (t:ek):og op t=M (D1 (t.s=0/\((op=36/\(t.a=2\/t.a=3))\/(op=39/\2<=t.a/\t.a<=5)\/(op≠36/\op≠39/\t.a=1)))):=by
 unfold og;simp only[BY,Vi];by_cases hE:t.s=0
 case neg=>grind
 have hk:(2<=t.a/\t.a<=5)↔((2<=t.a/\t.a<=4)\/t.a=5):=U
 have:op=36\/op=37\/op=38\/op=39:=U
 rcases this with rfl|rfl|rfl|rfl
 all_goals grind
theorem Rw{σ β ρ:Type}{s:σ->Option (Ex σ β ρ)}(I:σ->Prop) (a:σ->Nat) (QB:β->Prop) (QR:ρ->Prop)
 (h:∀x,I x->(∃d,s x=M (.go d)/\I d/\a d<a x)\/(∃b,s x=M (.brk b)/\QB b)\/∃b,s x=M (.ret b)/\QR b)
 {x:σ} (hi:I x):(∃b,ja s x=M (.inl b)/\QB b)\/∃b,ja s x=M (.inr b)/\QR b:=by
 have:=Jab (s1:=s) (s2:=s) (λx y=>x=y/\I x) a (λb c=>b=c/\QB b) (λb c=>b=c/\QR b) (by
  grind) (a x) x x (Nat.le_refl _) ⟨rfl,hi⟩
 grind
theorem W6(he:O! env) (g:36<=op/\op<=39) (hf:aE ⟨op,N⟩ env=a29):pw (Ah ⟨op,N⟩ [] env):=by
 have a:0<=N/\N<(a00 env.a0:Int):=by
  grind[aE]
 have hi:e! env.a0 N=M (env.a0[N.toNat]' U):=mn a.1 a.2;generalize env.a0[N.toNat]' U=t at hi;have hal:ta ⟨op,N⟩ [] env=og op t:=by
  unfold ta
  grind
 have hcm:Ja ⟨op,N⟩ [] env=Ph ⟨op,N⟩ env:=by
  unfold Ja;dsimp only;have w:(op==5)=a30:=s5
  rw[s7,s7,s7,s7,w,b?,s7 p6,s7,s7,s7,s7,s7,ap0,D2 g,J rfl,mM]
 have hov:∃p,Ph ⟨op,N⟩ env=M p:=by
  unfold Ph;dsimp only;rw[hi,b?];obtain⟨j,hj⟩:∃j,(if op=37 then M (1:Int)else M 0)=M j:=by split<;>exact⟨_,rfl⟩
  obtain⟨b,hb⟩:∃b,(if op=39 then M ((a00 env.w:Int)==0)else M a30)=M b:=by split<;>exact⟨_,rfl⟩
  rw[hj,b?,hb,b?]
  cases b with
  |true=>simp
  |false=>
   rw[s7 p6];have f:=Rw (s:=fk ⟨op,N⟩ env t) (λx=>0<=x.2.2.2/\x.2.2.2<=(a00 env.w:Int)) (λx=>(a00 env.w-x.2.2.2).toNat) (λ_=>True) (λ_=>True) (by
    rintro⟨B,C,k,d⟩ ⟨g1,g2⟩;dsimp only at g1 g2;unfold fk;dsimp only;by_cases c:d<(a00 env.w:Int)
    case neg=>rw[s7 c];simp
    rw[J c,mn g1 c];simp only[b?];generalize env.w[d.toNat]' U=l;by_cases hN:(a00 l:Int)<=N
    .rw[s7];simp
    rw[J hN,mn a.1 U];simp only[b?,jA,ud];generalize l[N.toNat]' U=v;have hgo:∀m n o:Int,∃e,(M (n? (m,n,o,aa .i64 (d+1))):Option (Ex (Int×Int×Int×Int) (Int×Int×Int) (bz×Int)))=M (.go e)/\(0<=e.2.2.2/\e.2.2.2<=(a00 env.w:Int))/\(a00 env.w-e.2.2.2).toNat<(a00 env.w-d).toNat:=by
     intro m n o;have:=he.mem;rw[m? U U]
     grind
    by_cases hv0:v.a=0
    .simp_all
    have h:(v.a==0)=a30:=by simp[hv0]
    simp only[h,M',G1];by_cases hh:(uB v&&(D1 (v.a=t.a)&&D1 (v.s=t.s)))=a29
    case neg=>
     simp_all
    rw[hh];simp only[hag,G1];by_cases i:op=36
    .simp only[i,B?];cases uB ⟨B,C,aa .i64 (k+v.N)⟩
     all_goals simp_all
    simp only[i,G1];by_cases y:op=37
    .simp_all
    simp only[y,G1];by_cases z:op=38
    .simp_all
    have A:op=39:=U
    simp only[z,A,G1,B?];obtain⟨b,hb⟩:∃b,(if¬d=0 then M (D1 (k<v.N))else M a29)=M b:=s5
    rw[hb,b?];cases b
    all_goals simp_all) (x:=(t.a,t.s,j,0)) ⟨p6,p6⟩
   rcases f with⟨⟨q,r,b3⟩,u,-⟩|⟨⟨q,r⟩,u,-⟩
   all_goals simp_all
 grind[X4,pw.ite]
theorem aA6{n:ia}{args:List bz}(he:O! env) (hN:Pd n) (hl:args.length<=3):pw (Qj n args env):=by
 refine oQ hl λd h2 h3 h4 h5=>?_;obtain⟨op,N⟩:=n;dsimp only at d h2;have two:(11<=op/\op<=24)\/(27<=op/\op<=30)->∃a b,args=[a,b]:=by
  intro h;have:args.length=2:=by grind[pf]
  match args,this with
  |[a,b],_=>simp
 have one:op=10\/op=25\/(31<=op/\op<=34)->∃a,args=[a]:=by
  intro h;have:args.length=1:=by grind[pf]
  match args,this with
  |[a],_=>simp
 have zero:op<=9\/35<=op->args=[]:=by
  grind[pf,Sai]
 rcases cK d with h|h|h|h|h|h|h|h|h|h|h|h|h|h|h|h|h|h|h|h|h|h|h|h|h|h|h|h|h|h|h|h|h|h|h|h|h|h|h<;>subst h
 .grind[Cy]
 .grind[Cy]
 .grind[Cy]
 .grind[Cy]
 .grind[Cy]
 .grind[ag3]
 .grind[ag2]
 .grind[ag1]
 .grind[ag0]
 .obtain⟨a,rfl⟩:=one U;grind[Xad]
 .obtain⟨a,b,rfl⟩:=two U;grind[rT]
 .obtain⟨a,b,rfl⟩:=two U;grind[rT]
 .obtain⟨a,b,rfl⟩:=two U;grind[aF]
 .obtain⟨a,b,rfl⟩:=two U;grind[aF]
 .obtain⟨a,b,rfl⟩:=two U;grind[aF]
 .obtain⟨a,b,rfl⟩:=two U;grind[aF]
 .obtain⟨a,b,rfl⟩:=two U;grind[sT]
 .obtain⟨a,b,rfl⟩:=two U;grind[sT]
 .obtain⟨a,b,rfl⟩:=two U;grind[uT]
 .obtain⟨a,b,rfl⟩:=two U;grind[uT]
 .obtain⟨a,b,rfl⟩:=two U;grind[vT]
 .obtain⟨a,b,rfl⟩:=two U;grind[vT]
 .obtain⟨a,b,rfl⟩:=two U;grind[wT]
 .obtain⟨a,b,rfl⟩:=two U;grind[wT]
 .obtain⟨a,rfl⟩:=one U;grind[Yad]
 .have:args.length=3:=by grind[pf]
  match args,this with
  |[a,b,c],_=>grind[Zad]
 .obtain⟨a,b,rfl⟩:=two U;grind[aae]
 .obtain⟨a,b,rfl⟩:=two U;grind[bae]
 .obtain⟨a,b,rfl⟩:=two U;grind[xT]
 .obtain⟨a,b,rfl⟩:=two U;grind[xT]
 .obtain⟨a,rfl⟩:=one U;grind[JK]
 .obtain⟨a,rfl⟩:=one U;grind[JK]
 .obtain⟨a,rfl⟩:=one U;grind[cae]
 .obtain⟨a,rfl⟩:=one U;grind[dae]
 all_goals grind[eae,W6]
theorem fac(h:Wst e) (hN:∀n∈e,Pd n) (he:O! env):∀i,i<a00 e->aa0 e env i:=
 aO6 h λi hi _=>aA6 he (aP2 hN hi) (by grind[vF,BU])
theorem YW(hN:∀n∈e,Pd n) (he:O! env) (h:Wst e):Om e env=M (HH e env (a00 e-1))/\((HH e env (a00 e-1)).2=0->Vc (HH e env (a00 e-1)).1):=
 bd6 h (fac h hN he _ (by have:=h.pos;omega))
theorem E8(hN:∀n∈e,Pd n) (he:O! env):pw (Om e env):=by
 by_cases a:(Qr e).2.2=0
 .obtain⟨b,h2⟩:=YW hN he (CP a);exact⟨_,b,h2⟩
 .unfold Om lu;rw[ft];simp only[b?];rw[J a];exact⟨_,rfl,λh=>absurd h a⟩
theorem jr{s:fr}(hs:ς s):Ve s=M (wx (Yq s)):=by
 grind[Ve,Vo]
theorem SG{g:List (List Int)}:∀(k:Nat) (out:List Int),(∀x∈out,0<=x/\x<(a00 g:Int))->(a00 out+k<=a00 g)->(∀x∈(Tw g k out).1,0<=x/\x<(a00 g:Int))/\(Tw g k out).1.length<=a00 g
 |0,out,h,hl=>⟨h,hl⟩
 |k+1,out,h,hl=>by
  unfold Tw;split
  .rename_i d hf;have h2:=List.mem_of_find?_eq_some hf;rw[Fah]at h2;refine SG k _ (λx hx=>?_) s5
   grind
  simp
theorem SV(g:List (List Int)):(∀x∈(wx g).1,0<=x/\x<(a00 g:Int))/\(wx g).1.length<=a00 g:=SG g.length [] (λx hx=>by simp at hx) p6
def NR(n:Nat) (x:Int):Prop:=x = -1\/x = -2\/(0<=x/\x<(n:Int))
theorem hac{t1:List Int}{out:Int->Int}{l:List Int}{n:Nat}(h:∀x∈l,NR n (out x)):NR n (gU t1 out l):=by
 unfold gU;have hs:=YA (t1:=t1) (out:=out) (l:=l);split
 .exact .inl rfl
 .simp_all
 .exact .inr (.inl rfl)
theorem aB6{t0 t1:List Int}{t2:List Bool}:∀(k:Nat) (i:Int),0<=i->i<(a00 t0:Int)->NR t0.length (oc t0 t1 t2 k i)
 |0,i,_,_=>.inl rfl
 |k+1,i,a,b=>by
  unfold oc;split
  .exact .inr (.inr ⟨a,b⟩)
  .exact hac λx hx=>by
    obtain⟨j,rfl,hj,-⟩:=KD hx;exact aB6 k _ U U
theorem ai4(t0 t1:List Int) (t2:List Bool):NR t0.length (J6 t0 t1 t2):=by
 unfold J6;split
 .exact hac λx hx=>by
   obtain⟨j,rfl,hj,-⟩:=KD hx;exact aB6 t0.length _ U U
 .exact .inl rfl
structure ScE (s:fr):Prop where
 ok:ς s
 n:∀r∈s.n,(∀n∈r.ak,Pd n)/\(∀n∈r.Value,Pd n)
variable {s:fr}
def Y7:tk:=⟨0,0,0,0⟩
def ay9(v:bz):Prop:=v=⟨0,0,0⟩\/Vc v
structure aa2 (n:Nat) (v:List bz) (r:List Int):Prop where
 vl:v.length=n
 rl:r.length=n
 vp:∀x∈v,ay9 x
variable {n:Nat}{r:Int}{v:Int->bz×Int}
theorem ao8{l:List α}{i:Nat}{x:α}(h:y∈l.set i x):y=x\/y∈l:=by
 grind
theorem O9(u:ScE s) (he:O! env) (m d:Int):∃p,dh s env m d=M p/\(p.2.Code=0->NR s.n.length p.1):=by
 have hr:=u.ok.rules;unfold dh;rw[Pv hr,b?];obtain⟨hl1,f,e⟩:=EE (rules:=s.n) (q:=D5 d env.g) s.n.length;have hm:=pK (rules:=s.n) (q:=D5 d env.g) s.n.length;unfold EZ;generalize (vq s.n (D5 d env.g) s.n.length).2.1=par at e⊢;generalize (vq s.n (D5 d env.g) s.n.length).1=L at f e hm⊢;generalize L.map (tK s)=k;dsimp only;rw[UF U U,b?];have g:=Rw (s:=Xl s env m d (L,par,k))
  (λx=>∃i:Nat,i<=a00 L/\x.2=(i:Int)/\x.1.length=a00 L) (λx=>(a00 L-x.2).toNat)
  (λx=>x.length=a00 L) (λx=>x.2.Code≠0) (by
   rintro⟨a,a2⟩ ⟨i,i1,w,y⟩;dsimp only at w y;subst w;unfold Xl;dsimp only;by_cases hi:i<a00 L
   case neg=>
    grind
   have hx:=hm _ (E' hi);rw[J,Ma hi];simp only[b?];generalize L[i]=x at hx⊢;rw[mn hx.1 hx.2.1];simp only[b?];have c:s.n[x.toNat]' U∈s.n:=E' _;generalize s.n[x.toNat]' U=r at c;have hN:=(u.n r c).1;have step:∀v:Bool,(e? (α:=((List Bool)⊕(Ex (List Bool×Int) (List Bool) (Int×tk)))) ((e! a (i:Int)).bind λx13=>(put a (i:Int) v).bind λo=>M (Sum.inl o)) λz=>match z with|.inr v=>M v|.inl j=>M (n? (j,(aa .i64 ((i:Int)+1)))))=M (.go (a.set i v,((i+1:Nat):Int))):=by
    intro v;rw[Ma U,b?,cD U,b?,b?]
    grind[Ha]
   by_cases t:(a00 r.ak:Int)=0
   .rw[J t];exact .inl ⟨_,step a29,⟨i+1,U,rfl,p5⟩,U⟩
   .rw[s7 t];obtain⟨p,A,p3⟩:=E8 hN he;rw[A,b?];by_cases hc:p.2=0
    .rw[s7 (E!.2 hc)];exact .inl ⟨_,step _,⟨i+1,U,rfl,p5⟩,U⟩
    simp_all) (x:=(h! L.length a30,0)) ⟨0,Q? _,rfl,p6⟩
 rcases g with⟨x,g1,g2⟩|⟨x,g1,g3⟩
 .rw[g1,b?];dsimp only;rw[Xw];simp only[b?];have b:=ai4 par k x;generalize J6 par k x=v at b;by_cases hv:v<0
  .rw[J hv];refine⟨_,rfl,λ_=>?_⟩;rcases b with h|h|h
   .exact .inl h
   .exact .inr (.inl h)
   omega
  .rw[s7 hv,mn U (by rcases b with h|h|h<;>omega),b?];have:=hm _ (E' (l:=L) (n:=v.toNat) (by rcases b with h|h|h<;>omega));exact⟨_,rfl,λ_=>.inr (.inr ⟨this.1,this.2.1⟩)⟩
 simp_all
theorem tZ(u:ScE s) (he:O! env) (hw:w.length=a00 s.f) (m:Int) :
 (∃v r,jb s env m w=M ((r,Y7),{ env with f:=v })/\aa2 s.f.length v r)\/
 ∃e d,e.Code≠0/\jb s env m w=M (([],e),d):=by
 have hd:=u.ok.defs;unfold jb;rw[UF U U,UF U U,b?,b?,jr u.ok,b?];obtain⟨g,o⟩:=SV (Yq s);rw[Zt]at g o;generalize wx (Yq s)=ord at g o⊢;have z:=Rw (s:=bf s env m w ord)
  (λx=>∃i:Nat,i<=a00 ord.1/\x.2.2=(i:Int)/\aa2 s.f.length x.1 x.2.1) (λx=>(a00 ord.1-x.2.2).toNat)
  (λx=>aa2 s.f.length x.1 x.2) (λx=>∃e d,x=(([],e),d)/\e.Code≠0) (by
   rintro⟨a,b,c⟩ ⟨i,i1,F,A,B,C⟩;dsimp only at F A B C;subst F;unfold bf;dsimp only;by_cases hi:i<a00 ord.1
   case neg=>
    rw[s7];exact .inr (.inl ⟨_,rfl,A,B,C⟩)
   have hx:=g _ (E' hi);rw[J,Ma hi];simp only[b?];generalize ord.1[i]=x at hx⊢;rw[mn (l:=w) hx.1 U];simp only[b?];by_cases t:w[x.toNat]' U=a30
   .rw[J t];simp only[b?];rw[Ha U];exact .inl ⟨_,rfl,⟨i+1,U,rfl,A,B,C⟩,s5⟩
   rw[s7 t];have j:O! (ll.mk env.g env.ad a env.w env.a0 env.Tables):=⟨he.tabs,he.mem⟩;obtain⟨p,H,I⟩:=O9 u j m x;rw[H];simp only[b?];by_cases hc:p.2.Code=0
   case neg=>
    simp_all
   rw[s7 (E!.2 hc)];by_cases G:p.1 = -1
   .simp_all
   rw[s7 G];by_cases h2:p.1 = -2
   .simp_all
   rw[s7 h2];have D:0<=p.1/\p.1<(a00 s.n:Int):=by
    rcases I hc with h|h|h
    all_goals omega
   rw[mn D.1 D.2];simp only[b?];have f:s.n[p.1.toNat]' U∈s.n:=E' _;generalize s.n[p.1.toNat]' U=r at f;obtain⟨q,q1,o4⟩:=E8 (u.n r f).2 j;rw[q1];simp only[b?];by_cases hq:q.2=0
   case neg=>
    simp_all
   rw[s7 (E!.2 hq)];obtain⟨k,rfl⟩:=wag hx.1;rw[Ma U,b?,cD U,b?,Ma U,b?,cD U];simp only[b?];rw[Ha U];refine .inl ⟨_,rfl,⟨i+1,U,rfl,?_,?_,?_⟩,s5⟩
   .grind
   .grind
   .intro y E;rcases ao8 E with rfl|E
    .exact .inr (o4 hq)
    simp_all) (x:=(h! s.f.length ⟨0,0,0⟩,h! s.f.length 0,0)) ⟨0,Q? _,rfl,p6,p6,λx hx=>.inl (List.eq_of_mem_replicate hx)⟩
 rcases z with⟨x,g1,g3⟩|⟨x,g1,e,d,rfl,g3⟩
 .rw[g1];exact .inl ⟨x.1,x.2,rfl,g3⟩
 simp_all
theorem yx{x:Int}(a:0<=x) (h1:x<(n:Int)):put ((s? n).map f) x a29=M ((s? n).map λk=>f k || D1 (x=(k:Int))):=by
 obtain⟨j,rfl⟩:=wag a;rw[cD p5];congr 1;apply Yag
 all_goals grind
theorem Ut{f:Nat->α}{x:Int}(h0:0<=x) (h1:x<(n:Int)):e! ((s? n).map f) x=M (f x.toNat):=by
 grind[mn]
theorem kN{l:List Int}(hl:l.length<=1048576) (hm:∀x∈l,0<=x/\x<(n:Int)) (f:Nat->Bool) 
 (c:∀a b,step (a,b)=if b<(a00 l:Int)then(e! l b).bind λx=>(e! a x).bind λ_=>(put a x a29).bind λq=>M (.go (q,aa .i64 (b+1)))else M (.brk a)) :
 ja step ((s? n).map f,0)=M (.inl ((s? n).map λk=>f k || l.contains (k:Int))):=by
 refine lf (λi=>((s? n).map (λk=>f k || (l.take i).contains (k:Int)),(i:Int))) l.length _ (λi hi=>?_) ?_ p6
 .have hx:=hm _ (E' hi);rw[c,J,Ma hi,b?,Ut hx.1 hx.2,b?,yx hx.1 hx.2,b?,Ha U,Ι,x! hi]
  grind
 simp_all
theorem fG(n:Nat):h! n a30=(s? n).map λ_=>a30:=by
 apply Yag<;>simp
def wB(s:fr) (d x:Int):Bool:=D1 (d=x) || (CT s d s.f.length).contains x
theorem Aae{x:Int}:wB s d x=a29↔d=x\/Way s d x:=by
 simp_all[wB,UH]
theorem FB{x:Int}(h:Way s d x):0<=x/\x<(a00 s.f:Int):=by
 cases h with
 |one h=>exact h.2.1
 |step _ h=>exact h.2.1
def QG(r:ke):List Int:=jF my r.ak++jF my r.Value
def TJ(s:fr) (d:Int):List Int:=ph ((s.n.filter λ(r:ke)=>wB s d r.ac).flatMap QG)
theorem ER{l:List ke}(a:∀r∈l,a00 r.ak<=1048576/\r.Value.length<=1048576) {p:ke->Bool}:((l.filter p).flatMap QG).length<=2097152*a00 l:=by
 induction l with
 |nil=>simp
 |cons r l b=>
  have:=b λx hx=>a x s5
  grind[QG,aB]
theorem MD(c:ς s) (hd:0<=d/\d<(a00 s.f:Int)):Ti s d=M (TJ s d):=by
 have h1:=c.defs;have h2:=c.rules;obtain⟨l,hl,j,f⟩:=yn c d;unfold ld at hl;rw[J,b?,s7 p5]at hl;unfold Ti;rw[J,b?,s7 p5,UF U U,b?,fG,Ut hd.1 hd.2,b?,yx hd.1 hd.2,b?]
 cases ha:Fc s with
 |none=>simp_all
 |some g=>
  rw[ha,b?]at hl;rw[b?]
  cases hr:lj g d with
  |none=>simp_all
  |some l'=>
   rw[hr,b?]at hl;obtain rfl:=R' hl;rw[b?,kN j (λx hx=>FB ((f x).1 hx)) _ (λa b=>by grind[kq]),b?];dsimp only;have hw:((s? s.f.length).map λ(k:Nat)=>(a30 || D1 (d=(k:Int))) || l'.contains (k:Int))=(s? s.f.length).map λ(k:Nat)=>wB s d (k:Int):=by
    apply cag;intro k _;unfold wB;rw[Bool.false_or];congr 1;rw[kai,Saf,Saf,f,UH]
   rw[hw];have m:ja (Xh s ((s? s.f.length).map λ(k:Nat)=>wB s d (k:Int))) (([]:List Int),0)=M (.inl ((s.n.filter λ(r:ke)=>wB s d r.ac).flatMap QG)):=by
    refine lf (λi=>(((s.n.take i).filter λ(r:ke)=>wB s d r.ac).flatMap QG,(i:Int))) s.n.length _ (λi hi=>?_) ?_ rfl
    .have hr:=c.g _ (E' hi);have hb:=ER (l:=s.n.take i) (λr hr=>c.g r (List.mem_of_mem_take hr)) (p:=λ(r:ke)=>wB s d r.ac);have h5:(s.n.take i).length<=1048576:=s5
     have q:=aB (p:=my) (e:=s.n[i].ak);have t:=aB (p:=my) (e:=s.n[i].Value);unfold Xh;dsimp only;rw[J,Ma hi,b?,Ha U,Ι,x! hi];simp only[Uag,Jag,List.flatMap_append];generalize s.n[i]=r at hr q t⊢;generalize ((s.n.take i).filter λ(r:ke)=>wB s d r.ac).flatMap QG=acc at hb⊢;have hc:(if¬r.ac<0 then if¬(a00 s.f:Int)<=r.ac then(e! ((s? s.f.length).map λ(k:Nat)=>wB s d (k:Int)) r.ac).bind λo=>M (!o)else M a29 else M a29)=M (!wB s d r.ac):=by
      by_cases g1:0<=r.ac
      .by_cases g2:r.ac<(a00 s.f:Int)
       .rw[J,J,Ut g1 g2,b?]
        grind
       .rw[J,s7];have:wB s d r.ac=a30:=by
         rw[←gai,Aae];rintro(h|h)
         .omega
         .have:=FB h;omega
        simp_all
      .rw[s7];have:wB s d r.ac=a30:=by
        rw[←gai,Aae];rintro(h|h)
        .omega
        .have:=FB h;omega
       simp_all
     rw[hc,b?];cases n:wB s d r.ac
     .simp[n]
     .rw[s7 p6,Bn U,b?,Bn U,b?]
      grind[WG,QG,Lf]
    simp_all[Xh]
   rw[m,b?];dsimp only;have hb:=ER (l:=s.n) c.g (p:=λ(r:ke)=>wB s d r.ac);rw[Tx U];rfl
theorem rng{a c:Int}:(if¬a<b then M (D1 (c<a))else M a29)=M (D1 (a<b) || D1 (c<a)):=by
 grind
theorem vQ{c:ve}(h:c.al.length<=1048576):∃b,tc c=M b:=by
 have hs:∀i:Nat,i<a00 c.al->Dd c (i:Int)=M (.ret a30)\/Dd c (i:Int)=M (.go (aa .i64 ((i:Int)+1))):=by
  intro i hi;unfold Dd;rw[J,Ma hi,b?];unfold Pb;generalize c.al[i]=x;by_cases h1:0<=x
  .by_cases h2:x<=109572
   .by_cases h3:0<i
    .obtain⟨k,rfl⟩:∃k,i=k+1:=⟨i-1,U⟩
     grind[m?,Ma]
    simp_all
   grind
  grind
 classical
 unfold tc;rw[show(if¬c.ba<0 then if¬126<c.ba then M (D1 (64<(a00 c.al:Int)))else M a29 else M a29)=M (D1 (c.ba<0) || (D1 (126<c.ba) || D1 (64<(a00 c.al:Int)))) by
  grind,b?]
 split
 .simp
 .rcases GD h (λi=>D1 (Dd c (i:Int)=M (.ret a30))) (step:=Dd c) (λi hi=>by
   grind) (by grind[Dd])with g|⟨g,-⟩
  all_goals simp_all
theorem TA{l:ej}(h:(yq l).Code=0):yq l=⟨0,0,0,0⟩:=by
 unfold yq at h⊢;split at h
 .grind
 rename_i c;rw[s7 c];generalize e:ff _ l.z.length=m at h⊢
 cases m with
 |some v=>exact(kB (f:=λi=>match l.z[i]? with|some x=>if(ym l i x).1=0 then u4 else M (⟨(ym l i x).1,1,(i:Int),(ym l i x).2⟩:pr)|none=>u4) iV e h).elim
 |none=>
 dsimp only at h⊢;split at h
 .grind
 rename_i h2;rw[s7 h2];generalize g:ff _ l.Tables.length=n at h⊢
 cases n with
 |some v=>exact(kB (f:=λi=>match l.Tables[i]? with|some x=>if(Su l i x).1=0 then u4 else M (⟨(Su l i x).1,2,(i:Int),(Su l i x).2⟩:pr)|none=>u4) HW g h).elim
 |none=>
 dsimp only at h⊢;split at h
 .grind
 rename_i d;rw[s7 d];generalize hf:ff _ l.e.length=o at h⊢
 cases o with
 |none=>rfl
 |some v=>
  rw[aah]at h;obtain⟨k,j,a,-⟩:=Vb.1 hf;rw[x! j]at a;dsimp only at a;split at a
  .grind
  .injection a with a;subst a;rename_i b;exact(b h).elim
theorem gaa{l:ej}(a:N! l) {i k:Nat}(hi:i<a00 l.e) (hk:k<l.e[i].f.length):Aa l.e[i].f[k].ao l.z=a29:=by
 have h:=a.s i hi;generalize l.e[i]=x at h hk⊢;unfold wq at h
 repeat' split at h
 all_goals first|(simp at h;done)|skip
 .rename_i v hv;exact(QM pab hv h).elim
 .rename_i v hv;exact(QM yX hv h).elim
 .rename_i v hv;exact(QM qZ hv h).elim
 .rename_i hd _ _;have:=Mb.1 hd k hk
  grind[SU,Sy]
theorem FQ{l:ej}(h:p? l) {c:kv}(hc:c.am.al.length<=1048576) (sc:Int):∃n,Qa l sc c=M n:=by
 have key:∃n,Qa l sc c=M n:=by
  unfold Qa;rw[Nk h];simp only[b?];by_cases hv:(yq l).Code=0
  .have s:=aL hv;rw[TA hv];simp only[not_true_eq_false,G1,and_self,beq_self_eq_true,hag];obtain⟨b,hb⟩:=vQ hc;by_cases d:sc<0
   .simp[d]
   by_cases h2:(a00 l.e:Int)<=sc
   .simp[d,h2]
   by_cases e:c.ac<0
   .simp[d,h2,e]
   obtain⟨i,rfl⟩:∃i:Nat,sc=(i:Int):=⟨sc.toNat,U⟩;have hi:i<a00 l.e:=U
   rw[J d,J h2,J e,Ma hi,b?,b?];by_cases p:(l.e[i].f.length:Int)<=c.ac
   .simp[p]
   obtain⟨k,hk⟩:∃k:Nat,c.ac=(k:Int):=⟨c.ac.toNat,U⟩;have a:k<l.e[i].f.length:=U
   rw[show D1 ((l.e[i].f.length:Int)<=c.ac)=a30 by simp_all];have ht:=gaa s hi a;simp only[hk,Ma a,b?,M',G1];generalize l.e[i].f[k].ao=t at ht⊢;by_cases q:t.a=3
   .have r:t.s=0:=by
     simp_all[Aa]
    simp only[q,r,and_self,not_true_eq_false,G1,rng,hb,b?];by_cases g1:c.a1<0
    .simp[g1]
    by_cases g2:5<c.a1
    .simp_all
    rw[J g1,J g2];simp only[g1,g2,ο,Bool.or_self,B?,b?];cases b
    .simp
    simp only[Z?,M',G1];generalize (D1 (c.bb<1) || D1 (28<c.bb))=f;generalize (D1 (c.bf<0) || D1 (1000000<c.bf))=g;generalize (D1 (c.a5<0) || D1 (1000000000000000<c.a5))=j;generalize (D1 (c.aj<0) || D1 (3599<c.aj))=m;generalize (D1 (c.a7<0) || D1 (365<c.a7))=o;cases f<;>cases g<;>cases j<;>cases m<;>cases o<;>simp
   simp_all
  simp_all
 omega
theorem N!.rule{l:ej}(a:N! l) {i k:Nat}(hi:i<a00 l.e) (hk:k<l.e[i].n.length):XG l.e[i] (BK l l.e[i]) k l.e[i].n[k]=0:=by
 have h:=a.s i hi;generalize l.e[i]=x at h hk⊢;unfold wq at h
 repeat' split at h
 all_goals first|(simp at h;done)|skip
 .rename_i v hv;exact(QM pab hv h).elim
 .rename_i v hv;exact(QM yX hv h).elim
 .rename_i v hv;exact(QM qZ hv h).elim
 simp_all[tW,Mb]
theorem N!.jY{l:ej}(a:N! l) {i:Nat}(hi:i<a00 l.e):TF l i l.e[i]=a30/\l.e[i].ad.length<=12/\l.e[i].f.length<=12:=by
 have h:=a.s i hi
 grind[wq]
theorem ZK{s:ri}(h:YK e s t=0):(xz e s).2.2=0:=by
 grind[YK]
theorem RS{s:ri}{k:Nat}{r:ke}(h:XG x s k r=0):(0<a00 r.ak->(xz r.ak s).2.2=0)/\(xz r.Value s).2.2=0:=by
 unfold XG at h;split at h
 .omega
 split at h
 .omega
 split at h
 .omega
 split at h
 .omega
 split at h
 .omega
 split at h
 .omega
 split at h
 .omega
 split at h
 .omega
 .rename_i h2;refine⟨λhl=>?_,ZK h⟩;exact ZK (t:=⟨1,0⟩) (Hai λa=>h2 ⟨hl,a⟩)
theorem ak0{ops:List ek}{s:ri}(h:36<=op/\op<=39) {p:ek×Int}(hr:Ld ⟨op,N⟩ ops s=M p) (a:p.2=0):0<=N/\N<(a00 s.a8:Int):=by
 rcases Decidable.em (0<=N/\N<(a00 s.a8:Int))with hc|hc
 .omega
 exfalso;have hu:=Cc (op:=op) U;have c:Vj op=a29:=by grind[Vj]
 unfold Ld Xa Wi He at hr;simp only[hu,c,qc,aq,xJ]at hr;by_cases d:N<0
 .rcases(by omega:op=36\/op=37\/op=38\/op=39)with h|h|h|h<;>subst h<;>cases b:s.bg<;>simp[b,d]at hr<;>(rw[←hr]at a;simp at a)
 .have e:(a00 s.a8:Int)<=N:=U
  rcases(by omega:op=36\/op=37\/op=38\/op=39)with h|h|h|h<;>subst h<;>cases b:s.bg<;>simp[b,d,e]at hr<;>(rw[←hr]at a;simp at a)
theorem i7{s:ri}(hN:∀n∈e,Pd n) (h:(xz e s).2.2=0):∀n∈e,my n=a29->0<=n.N/\n.N<(a00 s.a8:Int):=by
 unfold xz at h;split at h
 case isFalse h2=>simp_all
 rename_i c;have hw:=CP c;have hn:ff (SK e s) e.length=u4:=by
  grind[SK,Vb]
 intro n a hm;obtain⟨j,hj,rfl⟩:=O' a;have ht:=Mb.1 hn j hj;obtain⟨-,-,h39⟩:=hw.ar hj;unfold SK at ht;split at ht
 case isFalse=>grind
 rename_i d;have hr:=vS hw hN hj (λi hi=>Mb.1 hn i U);rw[Sw hj];rw[Sw hj]at hm;have b:36<=(th e j).Op/\(th e j).Op<=39:=by
  grind[my]
 have hres:=ak0 (op:=(th e j).Op) (N:=(th e j).N) b hr d;omega
theorem rP{l:ej}(h:p? l) (hx:x∈l.e):ScE x:=by
 obtain⟨-,g2,-,-,-,a⟩:=h.s x hx;exact⟨g2,λr hr=>(a r hr).2.2⟩
theorem bZ2{e:List pd}(hk:t.a=4):-1000000000<=(J7 t e).1/\(J7 t e).2<=1000000000:=by
 have hb:=Ho t e;unfold Cd at hb;rw[qc,b?]at hb
 grind
theorem N!.rowsN{l:ej}(h:N! l):∀t∈l.Tables,a00 t.Rows<=150/\(t.Value.a=4->ad0 t):=by
 intro t ht;have h64:=h.rows t ht;refine⟨U,λhk=>⟨U,λr hr=>?_⟩⟩;obtain⟨i,hi,rfl⟩:=O' ht;have:=h.t i hi;generalize l.Tables[i]=t at *;unfold Su at this;split at this
 .omega
 split at this
 .omega
 split at this
 case isFalse h2=>omega
 rename_i h2;unfold Tu at h2;rw[s7]at h2;split at h2
 .omega
 have hn:ff (VL t l.z) t.Rows.length=u4:=by
  cases hf:ff (VL t l.z) t.Rows.length with
  |none=>rfl
  |some v=>
   rw[hf]at h2;obtain⟨k,_,h3,_⟩:=Vb.1 hf
   grind[VL]
 obtain⟨k,b,rfl⟩:=O' hr;have c:=Mb.1 hn k b;unfold VL at c;rw[x! b]at c;dsimp only at c;split at c
 .grind
 rename_i hw;unfold VW at hw;have a:K4 t.Rows[k].N t.Value l.z=a29:=by
  simp_all
 unfold K4 at a;simp only[D?,R2]at a;have:=bZ2 (t:=t.Value) (e:=l.z) hk;omega
theorem eR{l:ej}(h:N! l) (ht:env.Tables=l.Tables) (hm:env.w.length<=1048576):O! env:=⟨by rw[ht];exact h.rowsN,hm⟩
def rL(l:ej) (x:fr):fr:=if h:0<=x.ah/\x.ah<(a00 l.e:Int)then l.e[x.ah.toNat]' U else⟨ByteArray.mk #[],0,[],[],[]⟩
theorem NV{l:ej}(h:p? l) (x:fr):ScE (rL l x):=by
 unfold rL;split
 .grind[rP]
 .exact⟨⟨p6,p6,p6⟩,p6⟩
theorem UJ{l:ej}(hl:p? l) (j:N! l) {i:Nat}(hi:i<a00 l.e) :∀m∈TJ l.e[i] d,0<=m/\m<((rL l l.e[i]).f.length:Int):=by
 intro m hm;have hx:=rP hl (E' hi);unfold TJ at hm;rw[(Nh _).2.2,List.mem_flatMap]at hm;obtain⟨r,hr,hm⟩:=hm;have hr:=(nah.1 hr).1;obtain⟨k,hk,rfl⟩:=O' hr;have ht:=RS (j.rule hi hk);have hn:=hx.n _ (E' hk);have a:((BK l l.e[i]).a8.length:Int)=((rL l l.e[i]).f.length:Int):=by
  grind[BK,rL]
 rw[←a];have of:∀e:List ia,(∀n∈e,Pd n)->(xz e (BK l l.e[i])).2.2=0->m∈jF my e->0<=m/\m<((BK l l.e[i]).a8.length:Int):=by
  intro e c h2 b;unfold jF at b;rw[(Nh _).2.2,V!]at b;obtain⟨n,f,rfl⟩:=b;obtain⟨g,h⟩:=nah.1 f;exact i7 c h2 n g h
 grind[QG,jF,ph,Sai]
theorem Qab{l:ej}(hl:p? l) (b:N! l) {i:Nat}(hi:i<a00 l.e) :(TJ l.e[i] d).length<=1048576:=by
 have h1:=PH (a:=TJ l.e[i] d) (lo:=0) (hi:=((rL l l.e[i]).f.length:Int)) (Nh _).1 (UJ hl b hi);have:=(NV hl l.e[i]).ok.defs;omega
def J0(f:ka):Prop:=f.Id<0\/(f.ay < -1\/8<=f.ay)\/(f.au < -1\/12<=f.au)\/(f.ay = -1/\f.au = -1)\/neB f.ai=a30\/(f.ar<0\/109572<f.ar)
instance (f:ka):Decidable (J0 f):=by unfold J0;infer_instance
def K0(f:ka):Prop:=(f.Value.a<1\/6<f.Value.a)\/(f.au = -1/\¬f.Value.a=1)
instance (f:ka):Decidable (K0 f):=by unfold K0;infer_instance
def oO(f:ka):Int:=if J0 f then 3 else if K0 f then 8 else 0
theorem bZ5[Decidable a] {b:Bool}:(e? (α:=Bool) (if a then M b else M a30) k)=k (decide a&&b):=by
 grind
theorem orQ{b:Prop} [Decidable a] [Decidable b] :(e? (α:=Bool) (if¬a then M (decide b)else M a29) k)=k (D1 (a\/b)):=by
 grind
theorem bD4{b:Prop} [Decidable a] [Decidable b] {x:α}:(if a then x else if b then x else y)=if a\/b then x else y:=by
 grind
theorem ZD(f:ka):ah f=M (oO f):=by
 unfold ah;simp only[orQ,bZ5,iy,b?,R2,D?,T!,bne_iff_ne,ne_eq,bD4];unfold oO;by_cases a:J0 f
 .rw[J a];unfold J0 at a;simp_all
 .rw[s7 a];unfold J0 at a;rw[s7 a];by_cases b:K0 f
  .rw[J b];unfold K0 at b;simp_all
  .rw[s7 b];unfold K0 at b;simp_all
def LO(l:List ka) (i:Nat):Option (Int×Int):=
 match l[i]? with
 |some f=>if¬oO f=0 then M ((i:Int),oO f)else if((l.take i).any λy=>D1 (y.Id=f.Id))=a29 then M ((i:Int),7)else u4
 |none=>u4
def OC(l:List ka):Int×Int:=if 128<(a00 l:Int)then(0,4)else(ff (LO l) l.length).getD (0,0)
theorem bE3{l:List ka}:∀(rest:List ka) (i:Nat) (seen:List Int),l.drop i=rest->(∀x,seen.contains x=(l.take i).any λy=>D1 (y.Id=x))->sf (i:Int) seen rest=M ((ff (λj=>LO l (i+j)) rest.length).getD (0,0))
 |[],i,seen,h,b=>rfl
 |f::rest,i,seen,h,b=>by
  have hi:i<a00 l:=by
   grind[Vag]
  have hf:l[i]=f/\l.drop (i+1)=rest:=by
   grind[Eaf]
  unfold sf;rw[ZD,b?];simp only[ff,w!,Nat.add_zero];have he:LO l i=if¬oO f=0 then M ((i:Int),oO f)else if((l.take i).any λy=>D1 (y.Id=f.Id))=a29 then M ((i:Int),7)else u4:=by
   grind[LO]
  rw[he];by_cases a:oO f=0
  case neg=>simp_all
  rw[s7 (E!.2 a),s7 (E!.2 a),b f.Id];by_cases hd:((l.take i).any λy=>D1 (y.Id=f.Id))=a29
  .simp_all
  .rw[s7 hd,s7 hd];dsimp only;rw[show(i:Int)+1=((i+1:Nat):Int)from rfl,bE3 rest (i+1) (f.Id::seen) hf.2 (λx=>by
    grind)]
   grind
theorem IF(l:List ka):Kk l=M (OC l):=by
 unfold Kk OC;split
 .rfl
 .have:=bE3 (l:=l) l 0 [] p6 (λx=>p6)
  simp_all
theorem au8{l:List ka}{i:Nat}{v:Int×Int}(h:LO l i=M v):v.1=(i:Int)/\v.2≠0:=by
 unfold LO at h
 grind
structure ab2 (l:List ka):Prop where
 len:l.length<=128
 c:∀f∈l,oO f=0
 id:∀(i j:Nat) (hi:i<a00 l) (hj:j<a00 l),i<j->l[i].Id≠l[j].Id
theorem tJ{l:List ka}(h:(OC l).2=0):ab2 l:=by
 unfold OC at h;split at h
 .omega
 have hn:∀i,i<a00 l->LO l i=u4:=by
  refine Mb.1 ?_
  cases hf:ff (LO l) l.length with
  |none=>rfl
  |some v=>
   grind[Vb,au8]
 have a:∀i (hi:i<a00 l),oO l[i]=0/\((l.take i).any λy=>D1 (y.Id=l[i].Id))=a30:=by
  grind[LO]
 refine⟨U,λf hf=>?_,λi j hi hj hij=>?_⟩
 .obtain⟨i,hi,rfl⟩:=O' hf
  simp_all
 .have:=(a j hj).2;rw[List.any_eq_false]at this;have:=this l[i] (by rw[List.mem_take_iff_getElem];grind)
  simp_all
def WB(m i d r:Int) (f:ka):Bool:=D1 (f.ay=m)&&(D1 (f.au=i)&&(!D1 (r<f.ar)&&wG f.ai d))
def below(g f:ka):Prop:=g.ar<f.ar\/(g.ar=f.ar/\g.Id<=f.Id)
instance (g f:ka):Decidable (below g f):=by unfold below;infer_instance
theorem be5{l:List ka}(hl:l.length<=1048576) (m i d r:Int):∃p,Wn l m i d r=M p/\
 ((p=(⟨0,0,0⟩,a30)/\∀f∈l,WB m i d r f=a30)\/∃f∈l,p=(f.Value,a29)/\WB m i d r f=a29/\∀g∈l,WB m i d r g=a29->below g f):=by
 have n:∀f:ka,(if f.ay=m then if f.au=i then if¬r<f.ar then(Ac f.ai d).bind λz=>M (!z)else M a29 else M a29 else M a29)=M (!WB m i d r f):=by
  grind[WB,kj]
 have s:∀f g:ka,Qv f g=M (D1 (¬below f g)):=by
  intro f g;unfold Qv below;by_cases h:f.ar=g.ar
  .simp_all
  .rw[J h];congr 1;grind
 have t:=Jab (s1:=Dp l m i d r) (s2:=Dp l m i d r)
  (λx y=>x=y/\∃j:Nat,j<=a00 l/\x.2=(j:Int)/\((x.1 = -1/\∀f∈l.take j,WB m i d r f=a30)\/∃(k:Nat) (hk:k<a00 l),x.1=(k:Int)/\WB m i d r l[k]=a29/\∀g∈l.take j,WB m i d r g=a29->below g l[k])) (λx=>(a00 l-x.2).toNat)
  (λx y=>x=y/\((x = -1/\∀f∈l,WB m i d r f=a30)\/∃(k:Nat) (hk:k<a00 l),x=(k:Int)/\WB m i d r l[k]=a29/\∀g∈l,WB m i d r g=a29->below g l[k])) (λ_ _=>False) (by
   rintro⟨a,b⟩ y ⟨rfl,j,j1,w,u⟩;dsimp only at w u;subst w;unfold Dp;dsimp only;by_cases hj:j<a00 l
   case neg=>
    grind
   rw[J,Ma hj];simp only[b?,n];have q:l.take (j+1)=l.take j++[l[j]]:=p6
   cases hh:WB m i d r l[j]
   .simp only[Bool.not_false,B?,b?];rw[Ha U];refine .inl ⟨_,_,rfl,rfl,⟨rfl,j+1,U,rfl,?_⟩,U⟩
    grind
   .simp only[Z?,M',G1];rcases u with⟨e,u⟩|⟨k,hk,e,v,h2⟩
    .subst e;rw[s7 s6];simp only[b?,B?];rw[Ha U];refine .inl ⟨_,_,rfl,rfl,⟨rfl,j+1,U,rfl,?_⟩,U⟩;refine .inr ⟨j,hj,rfl,hh,λg c o=>?_⟩;rw[q]at c;rcases Ρ.1 c with c|c
     .simp_all
     .rw[pag]at c;rw[c];exact .inr ⟨rfl,Dai _⟩
    .subst e;rw[J,Ma hk];simp only[b?,s];by_cases hb:below l[j] l[k]
     .rw[R1 (p:=¬below l[j] l[k]) (λh=>h hb)];simp only[M',G1,b?];rw[Ha U];refine .inl ⟨_,_,rfl,rfl,⟨rfl,j+1,U,rfl,.inr ⟨k,hk,rfl,v,λg c o=>?_⟩⟩,U⟩
      grind
     .rw[D2 hb];simp only[B?,b?];rw[Ha U];refine .inl ⟨_,_,rfl,rfl,⟨rfl,j+1,U,rfl,.inr ⟨j,hj,rfl,hh,λg c o=>?_⟩⟩,U⟩;rw[q]at c;rcases Ρ.1 c with c|c
      .have:=h2 g c o;unfold below at this hb⊢;omega
      .rw[pag]at c;rw[c];exact .inr ⟨rfl,Dai _⟩) l.length (-1,0) (-1,0) U ⟨rfl,0,Q? _,rfl,.inl ⟨rfl,λf hf=>by simp at hf⟩⟩
 rcases t with⟨x,y,g1,g2,rfl,g3⟩|⟨_,_,_,_,h⟩
 .unfold Wn;rw[g1];simp only[b?];rcases g3 with⟨e,g3⟩|⟨k,hk,e,v,h2⟩
  .simp_all
  .subst e;rw[s7,Ma hk]
   grind
 simp_all
theorem QW{l:List mu}(hl:l.length<=1048576) {step:List ek×Int->Option (Ex (List ek×Int) (List ek) Unit)}
 (c:∀a b,step (a,b)=if b<(a00 l:Int)then(e! l b).bind λd=>(app 16 a ([d.ao])).bind λe=>M (n? (e,(aa .i64 (b+1))))else M (o? a)):ja step (([]:List ek),0)=M (.inl (l.map (·.ao))):=by
 refine lf (λi=>((l.take i).map (·.ao),(i:Int))) l.length _ (λi hi=>?_) ?_ rfl
 .have h2:(l.take i).length<=a00 l:=s5
  rw[c,J,Ma hi,b?,Lf s5,b?,Ha U,Ι,x! hi]
  grind
 simp_all
def jS(s:fr) (d:Int):List Bool:=(s? s.f.length).map λ(k:Nat)=>wB s d (k:Int)
def PG(ms:fr) (l:List Int):List Bool:=(s? ms.f.length).map λ(k:Nat)=>l.any λm=>wB ms m (k:Int)
theorem kS(c:ς s) (hd:0<=d/\d<(a00 s.f:Int)) {l:List Int}(hl:l.length<=1048576) (hm:∀x,x∈l↔Way s d x) 
 (c:∀a b,step (a,b)=if b<(a00 l:Int)then(e! l b).bind λx=>(e! a x).bind λ_=>(put a x a29).bind λq=>M (.go (q,aa .i64 (b+1)))else M (.brk a)) :
 (e! ((s? s.f.length).map f) d).isSome=a29/\∃q,put ((s? s.f.length).map f) d a29=M q/\ja step (q,0)=M (.inl ((s? s.f.length).map λ(k:Nat)=>f k || wB s d (k:Int))):=by
 refine⟨by grind[Ut],_,yx hd.1 hd.2,?_⟩;rw[kN hl (λx hx=>FB ((hm x).1 hx)) _ c];congr 2;apply cag;intro k _;rw[Bool.or_assoc];congr 1;unfold wB;congr 1;rw[kai,Saf,Saf,hm,UH]
theorem rA{l:List α}{i:Int}(h:(e! l i).isSome=a29):∃x,e! l i=M x:=Option.isSome_iff_exists.1 h
theorem bN7(c:ς s) (hd:0<=d/\d<(a00 s.f:Int)) :ei s.q s.ah s.ad s.f s.n ((s? s.f.length).map f) d=M ((s? s.f.length).map λ(k:Nat)=>f k || wB s d (k:Int)):=by
 obtain⟨l,h1,h2,e⟩:=yn c d;obtain⟨m1,q,m2,m3⟩:=kS c hd (f:=f) h2 e (step:=Sl l) (λa b=>by grind[Sl]);obtain⟨x,hx⟩:=rA m1
 grind[ei,ld]
theorem LV{l:List Int}(hl:l.length<=1048576) (hm:∀m∈l,0<=m/\m<(a00 ms.f:Int)) {g:List Bool->Int->Option (List Bool)}
 (c:∀f:Nat->Bool,∀m∈l,g ((s? ms.f.length).map f) m=M ((s? ms.f.length).map λ(k:Nat)=>f k || wB ms m (k:Int)))
 (d:∀a b,step (a,b)=if b<(a00 l:Int)then(e! l b).bind λx=>(g a x).bind λq=>M (.go (q,aa .i64 (b+1)))else M (.brk a)):ja step (h! ms.f.length a30,0)=M (.inl (PG ms l)):=by
 refine lf (λi=>(PG ms (l.take i),(i:Int))) l.length _ (λi hi=>?_) ?_ (by simp[PG,fG])
 .rw[d,J,Ma hi,b?];unfold PG;rw[c _ _ (E' hi),b?,Ha U,Ι,x! hi]
  grind
 simp_all
noncomputable def VY(l:ej) (i:Nat) (hi:i<a00 l.e) (d:Int):b8:=
 ⟨⟨l.e[i].q,l.e[i].ah,l.e[i].ad,l.e[i].f,l.e[i].n⟩,⟨(rL l l.e[i]).q,(rL l l.e[i]).ah,(rL l l.e[i]).ad,(rL l l.e[i]).f,(rL l l.e[i]).n⟩,jS l.e[i] d,PG (rL l l.e[i]) (TJ l.e[i] d)⟩
theorem nI{l:ej}(hl:p? l) (t:N! l) (o:∀x∈l.e,a00 x.n<=64) {i:Nat}(hi:i<a00 l.e) (hd:0<=d/\d<(l.e[i].f.length:Int)) {c:vk}
 (v:Nc l (i:Int) c a29 d=M Y7):Ce l (i:Int) c d=(bh l (i:Int) c (VY l i hi d)).bind λj=>
 if¬j.2.2.Code=0 then
  M ((bz.mk 0 0 0),0,j.2.2)
 else
 (e! j.1.bh d).bind λw=>
 (e! j.1.n d).bind λz=>
 M (w,z,(tk.mk 0 0 0 0)):=by
 have hx:=rP hl (E' hi);have h:=NV hl l.e[i];have k:=UJ hl t hi (d:=d);have u:=Qab hl t hi (d:=d);have hfx:=o _ (E' hi);unfold Ce VY;rw[v,b?,s7 (by simp[Y7])];have s:En l (i:Int)=M (l.e[i].q,l.e[i].ah,l.e[i].ad,l.e[i].f,l.e[i].n,(rL l l.e[i]).q,(rL l l.e[i]).ah,(rL l l.e[i]).ad,(rL l l.e[i]).f,(rL l l.e[i]).n,h! l.e[i].f.length a30,h! (rL l l.e[i]).f.length a30):=by
  have hb:=(t.jY hi).1;have n:=hx.ok.defs;have e:=h.ok.defs;unfold En;rw[Ma hi,b?];generalize l.e[i]=x at hb n e⊢;rw[UF U U,b?];by_cases r:0<=x.ah
  .have p:x.ah<(a00 l.e:Int):=by
    grind[TF]
   unfold rL at e⊢;rw[dif_pos ⟨r,p⟩]at e⊢;rw[J r,mn r p,b?,UF U U];rfl
  grind[rL]
 rw[s,b?];dsimp only;generalize rL l l.e[i]=ms at h k⊢;generalize hxx:l.e[i]=x at *;have n:=hx.ok.defs;have e:=h.ok.defs;have hI11:Rl d x.q x.ah x.ad x.f x.n ms.q ms.ah ms.ad ms.f ms.n (h! x.f.length a30) (h! ms.f.length a30)=M (jS x d,PG ms (TJ x d)):=by
  obtain⟨lt,A,h2,B⟩:=yn hx.ok d;obtain⟨m1,q,m2,m3⟩:=kS hx.ok hd (f:=λ_=>a30) h2 B (step:=Ul lt) (λa b=>by grind[Ul]);obtain⟨y,C⟩:=rA m1;unfold Rl;rw[fG,C,b?,m2,b?,show ld ⟨x.q,x.ah,x.ad,x.f,x.n⟩ d=M lt from A,b?,m3,b?];dsimp only;rw[show Ti ⟨x.q,x.ah,x.ad,x.f,x.n⟩ d=M (TJ x d)from MD hx.ok hd,b?];rw[LV (ms:=ms) (l:=TJ x d) u k (g:=λa m=>ei ms.q ms.ah ms.ad ms.f ms.n a m) (λf m hm=>bN7 h.ok (k m hm)) (step:=Tl ms.q ms.ah ms.ad ms.f ms.n (TJ x d)) (λa b=>by grind[Tl])]
  simp_all[jS]
 simp_all
theorem uV{l:ej}(k:N! l) (hx:ScE x) (f:ScE ms) {c:vk}(hc:c.w.length<=1048576) {wm:List Bool}(hmk:w.length=a00 x.f) (hmm:wm.length=a00 ms.f) (i:Int) :
 ∃p,bh l i c ⟨⟨x.q,x.ah,x.ad,x.f,x.n⟩,⟨ms.q,ms.ah,ms.ad,ms.f,ms.n⟩,w,wm⟩=M p/\(p.2.2.Code=0->aa2 x.f.length p.1.bh p.1.n/\O! p.2.1):=by
 have g:=f.ok.defs;unfold bh;dsimp only;rw[QW (l:=ms.f) g (step:=Wl ⟨⟨x.q,x.ah,x.ad,x.f,x.n⟩,⟨ms.q,ms.ah,ms.ad,ms.f,ms.n⟩,w,wm⟩) (λa b=>by grind[Wl]),b?];dsimp only;have h:=Rw (s:=Vl l c ⟨⟨x.q,x.ah,x.ad,x.f,x.n⟩,⟨ms.q,ms.ah,ms.ad,ms.f,ms.n⟩,w,wm⟩)
  (λa=>∃j:Nat,j<=a00 c.w/\a.2.2=(j:Int)/\a.1.length=j/\a.2.1.length=j) (λa=>(a00 c.w-a.2.2).toNat)
  (λa=>a.1.length=a00 c.w) (λa=>∃e:tk,e.Code≠0/\a=(⟨[],[],[]⟩,⟨0,[],[],[],[],[]⟩,e)) (by
   rintro⟨a1,a2,a3⟩ ⟨j,j1,m,o,q⟩;dsimp only at m o q;subst m;unfold Vl;dsimp only;by_cases hj:j<a00 c.w
   case neg=>
    rw[s7]
    grind
   rw[J];rw[Ma hj];simp only[b?];have he:O! (ll.mk c.g c.w[j] [] [] [] l.Tables):=eR k rfl p6;rcases tZ f he (w:=wm) U (j:Int)with⟨v,r,s1,n⟩|⟨e,d,s0,s1⟩
   .rw[show jb ⟨ms.q,ms.ah,ms.ad,ms.f,ms.n⟩ _ _ _=_ from s1];simp only[b?,Y7,not_true,G1];rw[Lf s5,b?,Lf s5,b?,Ha U];exact .inl ⟨_,rfl,⟨j+1,U,rfl,p5,p5⟩,s5⟩
   simp_all) (x:=(([]:List (List bz)),([]:List b7),0)) ⟨0,Q? _,rfl,rfl,rfl⟩
 rcases h with⟨⟨a1,a2⟩,g1,g4⟩|⟨a,g1,e,e0,rfl⟩
 .dsimp only at g4;rw[g1];simp only[b?];have he:O! (ll.mk c.g c.ad [] a1 (ms.f.map (·.ao)) l.Tables):=eR k rfl p5;rcases tZ hx he (w:=w) U (-1)with⟨v,r,s1,n⟩|⟨e,d,s0,s1⟩
  .rw[show jb ⟨x.q,x.ah,x.ad,x.f,x.n⟩ _ _ _=_ from s1];simp only[b?,Y7,not_true,G1];exact⟨_,rfl,λ_=>⟨n,he.1,he.2⟩⟩
  simp_all
 simp_all
theorem SZ{l:ej}(hl:p? l) (g:N! l) (a:∀x∈l.e,a00 x.n<=64) {i:Nat}(hi:i<a00 l.e) (hd:0<=d/\d<(l.e[i].f.length:Int)) {c:vk}(hc:c.w.length<=1048576)
 (b:Nc l (i:Int) c a29 d=M Y7):∃p,Ce l (i:Int) c d=M p/\(p.2.2.Code=0->ay9 p.1):=by
 rw[nI hl g a hi hd b];obtain⟨p,h,j⟩:=uV g (rP hl (E' hi)) (NV hl l.e[i]) hc (w:=jS l.e[i] d) (wm:=PG (rL l l.e[i]) (TJ l.e[i] d)) (by simp[jS]) (by simp[PG]) (i:Int);unfold VY;rw[h,b?];by_cases f:p.2.2.Code=0
 case neg=>simp_all
 rw[s7 (E!.2 f)];have e:=(j f).1;rw[mn hd.1 (by have:=e.vl;omega),b?,mn hd.1 (by have:=e.rl;omega)];exact⟨_,rfl,λ_=>e.vp _ (E' _)⟩
def Zr(l:ej) (x:fr):List mu×Bool:=if h:0<=x.ah/\x.ah<(a00 l.e:Int)then((l.e[x.ah.toNat]' U).ad,a29)else([],a30)
theorem xA{l:ej}{i:Nat}(hi:i<a00 l.e):vd l (i:Int)=M (Zr l l.e[i]):=by
 unfold vd Zr;rw[Ma hi];simp only[b?,orO];generalize l.e[i]=x;by_cases h:0<=x.ah/\x.ah<(a00 l.e:Int)
 .have hc:D1 (x.ah<0\/(a00 l.e:Int)<=x.ah)=a30:=p5
  simp_all[mn]
 grind
theorem WJ{l:ej}{i:Nat}(hi:i<a00 l.e):Xf l (i:Int)=M ((Zr l l.e[i]).1,if(Zr l l.e[i]).2=a29 then 8 else 0):=by
 unfold Xf Zr;rw[Ma hi];simp only[b?,orO];generalize l.e[i]=x;by_cases h:0<=x.ah/\x.ah<(a00 l.e:Int)
 .have hc:D1 (x.ah<0\/(a00 l.e:Int)<=x.ah)=a30:=p5
  simp_all[mn]
 grind
def au1(l:ej) (x:fr) (f:ka):Option ek:=
 if f.au = -1 then M ⟨1,0⟩else if f.au<0 then u4 else((if f.ay = -1 then x.ad else(Zr l x).1)[f.au.toNat]?).map (·.ao)
noncomputable def au2(l:ej) (x:fr) (members:Int) (f:ka):Int:=
 if members<=f.ay then 6 else
 match au1 l x f with
 |none=>6
 |some t=>if¬(f.Value.a=t.a/\f.Value.s=t.s)then 8 else if K4 f.Value.N t l.z=a30 then 3 else 0
noncomputable def hhF(l:ej) (x:fr) (h:na) (i:Nat):Option (Int×Int):=
 match h.ab[i]? with
 |some f=>if¬au2 l x h.w f=0 then M ((i:Int),au2 l x h.w f)else u4
 |none=>u4
theorem inO{n lo hi:Int}:(e? (α:=Bool) (if¬n<lo then M (D1 (hi<n))else M a29) k)=k (!(D1 (lo<=n)&&D1 (n<=hi))):=by
 grind[decide]
theorem aB2{a c:Int}:(e? (α:=Bool) (if a=b then M (c !=d)else M a29) k)=k (D1 (¬(a=b/\c=d))):=by
 by_cases e:a=b
 .rw[J e,b?];congr 1
  grind
 simp_all
theorem bH3{l:ej}{h:na}{i:Nat}(hi:i<a00 l.e) (e:h.Scope=(i:Int)) (hl:h.ab.length<=128):ja (cg l h (Zr l l.e[i])) 0=M (Aj () (ff (hhF l l.e[i] h) h.ab.length)):=
 Ji (λj=>(j:Int)) _ h.ab.length () (λj hj _=>by
  unfold cg hhF;rw[J,Ma hj,x! hj,e,Ma hi];simp only[b?];generalize h.ab[j]=f;unfold au2;by_cases c:h.w<=f.ay
  .rw[J c,J c,J s6];rfl
  rw[s7 c,s7 c];have d:(if f.ay=(-1)then M l.e[i].ad else M (Zr l l.e[i]).1)=M (if f.ay = -1 then l.e[i].ad else(Zr l l.e[i]).1):=s5
  rw[d,b?];unfold au1;generalize (if f.ay = -1 then l.e[i].ad else(Zr l l.e[i]).1)=a;have fin:∀t:ek,(e? (α:=Bool) (if f.Value.a=t.a then M (f.Value.s !=t.s)else M a29) λg=>if g=a29 then M (v? (((j:Nat):Int),(8:Int)):Ex Int Unit (Int×Int))else(Cd (ek.mk t.a t.s) l.z).bind λb=>e? (α:=Bool) (if¬f.Value.N<b.1 then M (D1 (b.2<f.Value.N))else M a29) λk=>if k=a29 then M (v? (((j:Nat):Int),3))else M (n? (aa .i64 ((j:Int)+1)))) =
   M (qL (((j+1:Nat):Int)) (if¬(if¬(f.Value.a=t.a/\f.Value.s=t.s)then(8:Int)else if K4 f.Value.N t l.z=a30 then 3 else 0)=0 then M ((j:Int),(if¬(f.Value.a=t.a/\f.Value.s=t.s)then(8:Int)else if K4 f.Value.N t l.z=a30 then 3 else 0))else u4)):=by
   intro t;rw[aB2,Ha U];by_cases h2:f.Value.a=t.a/\f.Value.s=t.s
   .rw[R1 (p:=¬(f.Value.a=t.a/\f.Value.s=t.s)) (λh=>h h2),s7 p6,Ho,b?,inO];simp only[h2,not_true,and_self,G1];unfold K4;by_cases m:(D1 ((J7 t l.z).1<=f.Value.N)&&D1 (f.Value.N<=(J7 t l.z).2))=a29
    all_goals simp_all[qL]
   .rw[D2 h2,J rfl,J h2,J s6];rfl
  by_cases h2:f.au = -1
  .rw[s7 (E!.2 h2),J h2,b?];dsimp only;exact fin ⟨1,0⟩
  .rw[J h2,s7 h2,orO];by_cases m:f.au<0\/(a00 a:Int)<=f.au
   .rw[D2 m,J rfl,b?];dsimp only;have:(if f.au<0 then u4 else(a[f.au.toNat]?).map (·.ao))=u4:=by
     grind
    rw[this];dsimp only;rw[J s6];rfl
   simp_all[if_neg,mn]) (λ_=>by grind[cg])
noncomputable def hhV(l:ej) (h:na):Int×Int:=
 match l.e[h.Scope.toNat]? with
 |none=>(-1,6)
 |some x=>if h.Scope<0 then(-1,6)else if h.Id<0\/h.w<0\/8<h.w\/(h.w≠0/\(Zr l x).2=a30)then(-1,3)else
  if¬(OC h.ab).2=0 then OC h.ab else(ff (hhF l x h) h.ab.length).getD (0,0)
theorem bk4{b c d:Prop} [Decidable a] [Decidable b] [Decidable c] [Decidable d] {m:Bool}:(e? (α:=Bool) (if¬a then if¬b then if¬c then if¬d then M (!m)else M a30 else M a29 else M a29 else M a29) k)=k (D1 (a\/b\/c\/(¬d/\m=a30))):=by
 by_cases a<;>by_cases b<;>by_cases c<;>by_cases d<;>cases m<;>simp[*]
theorem Mg(l:ej) (h:na) (hl:l.e.length<=1048576):bd l h=M (hhV l h):=by
 unfold bd hhV;rw[orO];by_cases hs:h.Scope<0\/(a00 l.e:Int)<=h.Scope
 .grind
 rw[s7 p5];obtain⟨i,hi⟩:=wag (show 0<=h.Scope by omega);have a:i<a00 l.e:=U
 rw[hi,xA a,b?,Int.toNat_natCast,x! a];dsimp only;rw[bk4,s7 (show¬((i:Int)<0) by omega)];by_cases hb:h.Id<0\/h.w<0\/8<h.w\/(¬h.w=0/\(Zr l l.e[i]).2=a30)
 .simp_all
 rw[s7 p5,s7 hb,IF,b?];by_cases hf:(OC h.ab).2=0
 case neg=>simp_all
 rw[s7 (E!.2 hf),s7 (E!.2 hf),bH3 a hi (tJ hf).len,b?];cases ff (hhF l l.e[i] h) h.ab.length<;>rfl
structure bd4 (l:ej) (h:na) (i:Nat):Prop where
 hi:i<a00 l.e
 sc:h.Scope=(i:Int)
 m:0<=h.w/\h.w<=8
 ms:h.w≠0->(Zr l l.e[i]).2=a29
 f:ab2 h.ab
 t:∀f∈h.ab,f.ay<h.w/\∃t,au1 l l.e[i] f=M t/\f.Value.a=t.a/\f.Value.s=t.s/\K4 f.Value.N t l.z=a29
theorem TO{l:ej}{h:na}(hv:(hhV l h).2=0):∃i,bd4 l h i:=by
 unfold hhV at hv
 cases hx:l.e[h.Scope.toNat]? with
 |none=>simp_all
 |some x=>
  rw[hx]at hv;dsimp only at hv;split at hv
  .omega
  split at hv
  .omega
  split at hv
  .omega
  rename_i h0 h1 h2;obtain⟨b,rfl⟩:=List.getElem?_eq_some_iff.1 hx;refine⟨h.Scope.toNat,b,U,U,λhm=>?_,tJ (Kah.1 h2),λf hf=>?_⟩
  .simp_all
  .have hn:ff (hhF l l.e[h.Scope.toNat] h) h.ab.length=u4:=by
    cases hff:ff (hhF l l.e[h.Scope.toNat] h) h.ab.length with
    |none=>rfl
    |some v=>
     grind[hhF,Vb]
   obtain⟨k,hk,rfl⟩:=O' hf;have:=Mb.1 hn k hk;unfold hhF at this;rw[x! hk]at this;dsimp only at this;split at this
   .cases this
   .rename_i a;have a:=Kah.1 a;unfold au2 at a
    grind
noncomputable def oL(l:List ka) (m i d r:Int):bz×Bool:=(Wn l m i d r).getD (⟨0,0,0⟩,a30)
theorem kX{l:List ka}(hl:l.length<=1048576) (m i d r:Int):Wn l m i d r=M (oL l m i d r)/\
 ((oL l m i d r=(⟨0,0,0⟩,a30)/\∀f∈l,WB m i d r f=a30)\/∃f∈l,oL l m i d r=(f.Value,a29)/\WB m i d r f=a29/\∀g∈l,WB m i d r g=a29->below g f):=by
 obtain⟨p,h1,h3⟩:=be5 hl m i d r
 grind[oL]
noncomputable def Hs(l:List ka) (m:Int) (n:Nat) (d r:Int):List bz×Bool:=
 if((s? n).all λi=>(oL l m (i:Int) d r).2)=a29 then((s? n).map λ(i:Nat)=>(oL l m (i:Int) d r).1,a29)else([],a30)
theorem ad8{l:List ka}:ff (λi=>if(oL l m (i:Int) d r).2=a30 then M (([],a30):List bz×Bool)else u4) n=if((s? n).all λi=>(oL l m (i:Int) d r).2)=a29 then u4 else M ([],a30):=by
 by_cases h:((s? n).all λi=>(oL l m (i:Int) d r).2)=a29
 .simp_all[Mb]
 .rw[s7 h]
  cases hf:ff (λi=>if(oL l m (i:Int) d r).2=a30 then M (([],a30):List bz×Bool)else u4) n with
  |none=>
   grind[Mb]
  |some v=>
   grind[Vb]
theorem cL{l:List ka}(hl:l.length<=1048576) (hn:n<=1048576) (m d r:Int):Re l m (n:Int) d r=M (Hs l m n d r):=by
 unfold Re;rw[UF U U,b?];have a:ja (qe l m d r (h! n ⟨0,0,0⟩)) (h! n ⟨0,0,0⟩,0)=M (Aj ((s? n).map λ(i:Nat)=>(oL l m (i:Int) d r).1) (ff (λi=>if(oL l m (i:Int) d r).2=a30 then M (([],a30):List bz×Bool)else u4) n)):=by
  refine Ji (step:=qe l m d r (h! n ⟨0,0,0⟩)) (λt=>(((s? n).map λ(i:Nat)=>(oL l m (i:Int) d r).1).take t++h! (n-t) ⟨0,0,0⟩,(t:Int))) _ n _ (λt ht _=>?_) (λ_=>?_) p6
  .unfold qe;dsimp only;rw[J p5,(kX hl m (t:Int) d r).1,b?];by_cases h:(oL l m (t:Int) d r).2=a30
   .rw[J h,J h];rfl
   .rw[s7 h,s7 h,Ma s5,b?,cD s5,b?,Ha U,kK ht];unfold qL;dsimp only;congr 3;rw[List.set_append_right _ _ s5,show t-(((s? n).map λ(i:Nat)=>(oL l m (i:Int) d r).1).take t).length=0 by grind,show n-t=(n-(t+1))+1 by omega,List.replicate_succ,List.set_cons_zero];simp
  simp_all[qe,Ψ]
 rw[a,ad8];unfold Hs;split<;>rfl
noncomputable def prS(l:List ka) (d r:Int) (m:Nat):Bool:=(oL l (m:Int) (-1) d r).2&&(D1 ((oL l (m:Int) (-1) d r).1.a=1)&&((oL l (m:Int) (-1) d r).1.N==1))
theorem aN7{l:List ka}{m:Nat}:prS l d r m=((oL l (m:Int) (-1) d r).2&&(D1 ((oL l (m:Int) (-1) d r).1.a=1)&&((oL l (m:Int) (-1) d r).1.N==1))):=rfl
noncomputable def Fs(h:na) (d r:Int):List Int:=((s? (min (max h.w 0) 8).toNat).filter (prS h.ab d r)).map λ(m:Nat)=>(m:Int)
theorem YV{v:bz}{b:Bool}:(e? (α:=Bool) (if b=a29 then if v.a=1 then M (v.N==1)else M a30 else M a30) k)=k (b&&(D1 (v.a=1)&&(v.N==1))):=by
 grind
theorem lS{h:na}(hl:h.ab.length<=1048576) (d r:Int):rh h d r=M (Fs h d r):=by
 obtain⟨n,hn⟩:∃n,(min (max h.w 0) 8).toNat=n:=⟨_,rfl⟩;have hn8:n<=8:=U
 have bound:∀t,t<=n->(((s? t).filter (prS h.ab d r)).map λ(m:Nat)=>(m:Int)).length<=t:=by
  grind
 have e1:ja (tf h d r) (([]:List Int),0)=M (.inl (Fs h d r)):=by
  refine lf (λt=>(((s? t).filter (prS h.ab d r)).map λ(m:Nat)=>(m:Int),(t:Int))) n _ (λt ht=>?_) ?_ rfl
  .have:=bound t U;unfold tf;dsimp only;rw[J,(kX hl (t:Int) (-1) d r).1,b?,YV,Ha U,xah]
   grind[aN7,Lf]
  grind[tf,Fs]
 grind[rh]
noncomputable def Fw(l:ej) (x:fr) (h:na) (d r:Int):vk×Int:=
 if d<0\/109572<d then(⟨0,[],[]⟩,3)else
 if(Hs h.ab (-1) x.ad.length d r).2=a30 then(⟨0,[],[]⟩,6)else
 if((Fs h d r).all λm=>(Hs h.ab m (Zr l x).1.length d r).2)=a29 then(⟨d,(Hs h.ab (-1) x.ad.length d r).1,(Fs h d r).map λm=>(Hs h.ab m (Zr l x).1.length d r).1⟩,0)else(⟨0,[],[]⟩,6)
theorem Rab{L:List Int}(hL:L.length<=1048576) {v:Int->List bz×Bool}{g:Int->Option (List bz×Bool)}(d:∀m∈L,g m=M (v m)) {step:List (List bz)×Int->Option (Ex (List (List bz)×Int) (List (List bz)) (vk×Int))}
 (e:∀a b,step (a,b)=if b<(a00 L:Int)then(e! L b).bind λm=>(g m).bind λx=>if x.2=a30 then M (.ret (⟨0,[],[]⟩,6))else(app 24 a ([x.1])).bind λq=>M (.go (q,aa .i64 (b+1)))else M (.brk a)) :
 ja step (([]:List (List bz)),0)=M (if(L.all λm=>(v m).2)=a29 then .inl (L.map λm=>(v m).1)else .inr (⟨0,[],[]⟩,6)):=by
 have c:ja step (([]:List (List bz)),0)=M (Aj (L.map λm=>(v m).1) (ff (λi=>if(L[i]?.any λm=>!(v m).2)=a29 then M ((⟨0,[],[]⟩,6):vk×Int)else u4) L.length)):=by
  refine Ji (step:=step) (λt=>((L.map λm=>(v m).1).take t,(t:Int))) _ L.length _ (λt ht _=>?_) (λ_=>?_) p6
  .rw[e,J,Ma ht,b?,d _ (E' ht),b?,x! ht];simp only[Option.any_some];by_cases hv:(v L[t]).2=a30
   .grind[qL]
   .rw[s7 hv,Lf s5,b?,Ha U,Ι]
    grind[qL]
  simp_all[Ψ]
 rw[c];by_cases ha:(L.all λm=>(v m).2)=a29
 .rw[J ha,Mb.2 (λi hi=>by
   simp_all)]
  rfl
 .rw[s7 ha]
  cases hf:ff (λi=>if(L[i]?.any λm=>!(v m).2)=a29 then M ((⟨0,[],[]⟩,6):vk×Int)else u4) L.length with
  |none=>
   exfalso;apply ha;rw[Λ];intro m hm;obtain⟨k,hk,rfl⟩:=O' hm
   grind[Mb]
  |some w=>
   obtain⟨k,_,h2,_⟩:=Vb.1 hf;split at h2
   .rw[←h2];rfl
   simp_all
theorem lN(h:na) (d r:Int):(Fs h d r).length<=8:=by
 grind[Fs]
theorem nS{l:ej}(hl:p? l) (x:fr):(Zr l x).1.length<=1048576:=by
 unfold Zr;split
 .exact(hl.s _ (E' _)).2.2.1
 simp
theorem v8{l:ej}(hl:p? l) (n:(yq l).Code=0) {h:na}(hv:(hhV l h).2=0) {i:Nat}(hi:i<a00 l.e) (k:h.Scope=(i:Int)) (d r:Int):Qh l h d r=M (Fw l l.e[i] h d r):=by
 have c:=(hl.s _ (E' hi)).2.2.1;have e:=nS hl l.e[i];have hml:=lN h d r;obtain⟨i',j⟩:=TO hv;have hf:h.ab.length<=1048576:=by have:=j.f.len;omega
 unfold Qh Fw;rw[Nk hl,b?,TA n,s7 p6,Mg l h hl.ns,b?,s7 (E!.2 hv),orO];by_cases hd:d<0\/109572<d
 .simp_all
 rw[s7 p5,s7 hd,k,Ma hi,b?,cL hf c,b?];by_cases hv:(Hs h.ab (-1) l.e[i].ad.length d r).2=a30
 .simp_all
 rw[s7 hv,s7 hv,xA hi,b?,lS hf d r,b?];rw[Rab (L:=Fs h d r) U (v:=λm=>Hs h.ab m (Zr l l.e[i]).1.length d r) (g:=λm=>Re h.ab m ((Zr l l.e[i]).1.length:Int) d r) (λm _=>cL hf e m d r) (step:=ik h d r (Zr l l.e[i]) (Fs h d r)) (λa b=>by grind[ik]),b?]
 grind
def U8(l:ej) (fs:List mu) (vs:List bz):Prop:=a00 vs=a00 fs/\∀j (h1:j<a00 vs) (h2:j<a00 fs),vs[j].a=fs[j].ao.a/\vs[j].s=fs[j].ao.s/\K4 vs[j].N fs[j].ao l.z=a29
theorem Uz{l:ej}{vs:List bz}(hl:fs.length<=1048576) (h:U8 l fs vs):Se l vs fs=M (0,0):=by
 obtain⟨h1,h2⟩:=h;unfold Se;rw[s7,s7];have:ja (Te l vs fs) 0=M (.inl ()):=by
  refine lf (λi=>(i:Int)) vs.length _ (λi hi=>?_) ?_ rfl
  .obtain⟨a,b,c⟩:=h2 i hi U;unfold Te;rw[J,Ma hi,b?,Ma U,b?,aB2,R1 (p:=¬(vs[i].a=(fs[i]' U).ao.a/\vs[i].s=(fs[i]' U).ao.s)) (λh=>h ⟨a,b⟩),s7 p6,Ho,b?,inO]
   grind[K4,Ha]
  simp_all[Te]
 simp_all
theorem GZ{l:ej}{h:na}{i:Nat}(hh:bd4 l h i) (hx:l.e[i]'hh.hi=x) (hm:fs=if m = -1 then x.ad else(Zr l x).1) (hv:(Hs h.ab m fs.length d r).2=a29):U8 l fs (Hs h.ab m fs.length d r).1:=by
 unfold Hs at hv⊢;split at hv
 case isFalse=>grind
 rename_i ha;rw[J ha];refine⟨p6,λj a h2=>?_⟩;simp only[Kaf,List.length_range]at a;simp only[Uah,taj];have hj:=Λ.1 ha j p5;have hf:h.ab.length<=1048576:=by have:=hh.f.len;omega
 rcases(kX hf m (j:Int) d r).2 with⟨e,-⟩|⟨f,f1,f2,f3,-⟩
 .simp_all
 .rw[f2];dsimp only;obtain⟨-,t,t1,t2,t3,t4⟩:=hh.t f f1;unfold WB at f3;simp only[D?,R2]at f3;unfold au1 at t1
  simp_all
theorem sX{l:ej}(hl:p? l) (p:(yq l).Code=0) {h:na}{i:Nat}(hh:bd4 l h i) (hc:(Fw l (l.e[i]'hh.hi) h d r).2=0) {def_:Int}(hd:0<=def_/\def_<((l.e[i]'hh.hi).f.length:Int)) :
 Nc l (i:Int) (Fw l (l.e[i]'hh.hi) h d r).1 a29 def_=M Y7/\(Fw l (l.e[i]'hh.hi) h d r).1.w.length<=8:=by
 have hi:=hh.hi;have c:=(hl.s _ (E' hi)).2.2.1;have f:=nS hl l.e[i];have hml:=lN h d r;have hns:=hl.ns;unfold Fw at hc⊢;split at hc
 .omega
 rename_i o;rw[s7 o];split at hc
 .omega
 rename_i h2;rw[s7 h2];split at hc
 case isFalse=>omega
 rename_i k;rw[J k];have h2:(Hs h.ab (-1) l.e[i].ad.length d r).2=a29:=p5
 have q:=GZ hh rfl (m:=-1) (fs:=l.e[i].ad) p6 h2;refine⟨?_,p5⟩;unfold Nc;rw[Nk hl,b?,s7 (E!.2 p),Ma hi,b?];have a:(if¬(i:Int)<0 then if¬(a00 l.e:Int)<=(i:Int)then if a29=a29 then if¬def_<0 then M (D1 ((l.e[i].f.length:Int)<=def_))else M a29 else M a30 else M a29 else M a29)=M a30:=by
  simp_all
 rw[a,b?,s7 p6];have b:dj l (i:Int) ⟨d,(Hs h.ab (-1) l.e[i].ad.length d r).1,(Fs h d r).map λm=>(Hs h.ab m (Zr l l.e[i]).1.length d r).1⟩=M (0,0,0):=by
  unfold dj;dsimp only;rw[orO,s7 p5,orO,s7 p5,Ma hi,b?,Uz c q,b?,s7 p6,WJ hi,b?];have hlim:¬(if(Zr l l.e[i]).2=a29 then(8:Int)else 0)<(((Fs h d r).map λm=>(Hs h.ab m (Zr l l.e[i]).1.length d r).1).length:Int):=by
   rw[Kaf];split
   .omega
   .rename_i hb;have hm0:h.w=0:=Hai λn=>hb (hh.ms n)
    grind[Fs]
  rw[s7 hlim];have hlp:ja (Fg l ⟨d,(Hs h.ab (-1) l.e[i].ad.length d r).1,(Fs h d r).map λm=>(Hs h.ab m (Zr l l.e[i]).1.length d r).1⟩ ((Zr l l.e[i]).1,if(Zr l l.e[i]).2=a29 then 8 else 0)) 0=M (.inl ()):=by
   refine lf (λi=>(i:Int)) (Fs h d r).length _ (λj hj=>?_) ?_ rfl
   .unfold Fg;dsimp only;rw[J p5,Ma p5,b?];simp only[Uah];have e:=E' hj;have g:=Λ.1 k _ e;have hne:(Fs h d r)[j]≠-1:=by
     grind[Fs]
    rw[Uz f (GZ hh rfl (fs:=(Zr l l.e[i]).1) p5 g),b?,s7 p6,Ha U]
   simp_all[Fg]
  simp_all
 rw[b];rfl
structure ad1 (l:ej) (i:Nat) (c:kv):Prop where
 v:(yq l).Code=0
 hi:i<a00 l.e
 d:0<=c.ac/\c.ac<((l.e[i]'hi).f.length:Int)
 r:0<=c.a1/\c.a1<=5
theorem Z9{l:ej}(h:p? l) {c:kv}{sc:Int}(hv:Qa l sc c=M 0):∃i:Nat,sc=(i:Int)/\ad1 l i c:=by
 unfold Qa at hv;rw[Nk h,b?]at hv;by_cases a:(yq l).Code=0
 case neg=>simp_all
 rw[TA a,s7 p6]at hv;by_cases b:sc<0
 .grind
 by_cases h2:(a00 l.e:Int)<=sc
 .grind
 by_cases d:c.ac<0
 .grind
 obtain⟨i,rfl⟩:=wag (show 0<=sc by omega);have hi:i<a00 l.e:=U
 rw[J b,J h2,J d,Ma hi]at hv;simp only[b?]at hv;by_cases e:(l.e[i].f.length:Int)<=c.ac
 .simp_all
 rw[R1 e,s7 p6,mn U U]at hv;simp only[b?,rng]at hv;split at hv
 .grind
 by_cases f:0<=c.a1/\c.a1<=5
 .exact⟨i,rfl,a,hi,U,f⟩
 grind
noncomputable def gh(l:ej) (i:Nat) (h:na) (def_ rec d:Int):bz×Int:=
 match l.e[i]? with
 |none=>(⟨0,0,0⟩,1)
 |some x=>
  if¬(Fw l x h d rec).2=0 then(⟨0,0,0⟩,(Fw l x h d rec).2)else
  ((((Ce l (i:Int) (Fw l x h d rec).1 def_).getD (⟨0,0,0⟩,0,Y7)).1),((Ce l (i:Int) (Fw l x h d rec).1 def_).getD (⟨0,0,0⟩,0,Y7)).2.2.Code)
structure Ctx (l:ej) (h:na) (c:kv) (i:Nat):Prop where
 ok:p? l
 jY:∀x∈l.e,a00 x.n<=64
 cf:ad1 l i c
 hv:(hhV l h).2=0
 sc:h.Scope=(i:Int)
variable {l:ej}{i:Nat}{c:kv}{h:na}
theorem aH7{v:bz}(h:ay9 v):-1000000000000000<=v.N/\v.N<=1000000000000000:=by
 rcases h with h|h
 .simp_all
 .have:=h.range;omega
def yw:Int->List js->Int->Prop
 |a,[],b=>a=b
 |a,p::l,b=>p.r=a/\p.r<p.To/\yw p.To l b
theorem sG{to:Int}:∀{a:Int}{l:List Int},a<to->l.Pairwise (·<·)->(∀x∈l,a<x/\x<to)->yw a (CA to a l) to
 |a,[],h,_,_=>⟨rfl,h,rfl⟩
 |a,x::l,h,b,hm=>by
  rw[List.pairwise_cons]at b;have hx:=hm x p6;exact⟨rfl,hx.1,sG hx.2 b.2 λy c=>⟨b.1 y c,(hm y s5).2⟩⟩
def Dy(v:Int->Int) (l:List js):Int:=(l.map λp=>v p.r*(p.To-p.r)).sum
def fu(l:List js):Int:=(l.map λp=>p.To-p.r).sum
theorem Qs:∀{a b:Int}{l:List js},yw a l b->fu l=b-a/\a<=b
 |a,b,[],h=>by simp only[yw]at h;grind[fu]
 |a,b,p::l,h=>by
  obtain⟨h1,h2,c⟩:=h;obtain⟨h4,h5⟩:=Qs c
  grind[fu]
theorem z7{v:Int->Int}{l:List js}:Dy v (l++[p])=Dy v l+v p.r*(p.To-p.r):=by simp[Dy]
theorem L2{l:List js}:fu (l++[p])=fu l+(p.To-p.r):=by simp[fu]
theorem DI:∀{a b:Int}{l:List js}(j:Nat),yw a l b->∃c,yw a (l.take j) c/\c<=b
 |a,b,l,0,h=>⟨a,by simp[yw],(Qs h).2⟩
 |a,b,[],j+1,h=>⟨b,p5,Dai _⟩
 |a,b,p::l,j+1,h=>by
  obtain⟨d,h2,e⟩:=h;obtain⟨c,f,g⟩:=DI j e;exact⟨c,⟨d,h2,f⟩,g⟩
theorem rM:∀{a b:Int}{l:List js},yw a l b->∀p∈l,a<=p.r/\p.r<p.To/\p.To<=b
 |a,b,[],h,p,c=>by simp at c
 |a,b,q::l,h,p,c=>by
  obtain⟨h1,h2,d⟩:=h;have h4:=(Qs d).2;rcases X'.1 c with rfl|c
  .omega
  .have:=rM d p c;omega
theorem bl0{n k:Int}{B:Nat}(h1:-(B:Int)<=n/\n<=B) (h2:0<=k):-(B*k)<=n*k/\n*k<=B*k:=by
 constructor
 .rw[←Int.neg_mul];simp_all[lah]
 simp_all[lah]
theorem WW{v:Int->Int}:∀{a b:Int}{l:List js},yw a l b->(∀p∈l,-1000000000000000<=v p.r/\v p.r<=1000000000000000)->-(1000000000000000*fu l)<=Dy v l/\Dy v l<=1000000000000000*fu l
 |a,b,[],h,hv=>by simp[Dy,fu]
 |a,b,p::l,h,hv=>by
  obtain⟨h1,h2,c⟩:=h;have ih:=WW c λq hq=>hv q s5;have hp:=bl0 (n:=v p.r) (k:=p.To-p.r) (B:=1000000000000000) (hv p p6) U
  grind[Dy,fu]
noncomputable def uF(v:Int->bz×Int) (rounding:Int) (l:List js):Int×Int:=
 match ff (λj=>match l[j]? with|some p=>if¬(v p.r).2=0 then M (v p.r).2 else u4|none=>u4) l.length with
 |some e=>(0,e)
 |none=>(max (CX (Dy (λd=>(v d).1.N) l) (fu l) rounding).1 0,0)
theorem fZ(H:Ctx l h c i) (rec d:Int):∃q:vk×Int,Qh l h d rec=M q/\
 ((q.2≠0/\gh l i h c.ac rec d=(⟨0,0,0⟩,q.2))\/(q.2=0/\∃p,Ce l h.Scope q.1 c.ac=M p/\gh l i h c.ac rec d=(p.1,p.2.2.Code)/\(p.2.2.Code=0->ay9 p.1))):=by
 have hi:=H.cf.hi;obtain⟨b,hh⟩:=TO H.hv;have a:b=i:=by have:=hh.sc;have:=H.sc;omega
 subst a;refine⟨Fw l l.e[b] h d rec,v8 H.ok H.cf.v H.hv hi H.sc d rec,?_⟩;unfold gh;rw[x! hi];dsimp only;by_cases hc:(Fw l l.e[b] h d rec).2=0
 .right;refine⟨hc,?_⟩;obtain⟨e,k2⟩:=sX H.ok H.cf.v hh hc H.cf.d;obtain⟨p,f,p3⟩:=SZ H.ok (aL H.cf.v) H.jY hi H.cf.d U e;rw[s7 (E!.2 hc),H.sc,f]
  simp_all
 simp_all
theorem CE(H:Ctx l h c i) (rec d:Int) (h0:(gh l i h c.ac rec d).2=0):-1000000000000000<=(gh l i h c.ac rec d).1.N/\(gh l i h c.ac rec d).1.N<=1000000000000000:=by
 obtain⟨q,-,hq⟩:=fZ H rec d;rcases hq with⟨q1,q2⟩|⟨-,p,-,p3,p4⟩
 all_goals simp_all[aH7]
theorem Y8(H:Ctx l h c i) {q:List js}{a:Int}(hq:yw a q b) (hab:a<b/\b-a<=31) (hlen:q.length<=65536) (rec:Int) :
 Qo l h c q rec=M (uF (gh l i h c.ac rec) c.a1 q):=by
 have m:∀j (hj:j<a00 q),(∀k,k<j->(match q[k]? with|some p=>if¬(gh l i h c.ac rec p.r).2=0 then M (gh l i h c.ac rec p.r).2 else u4|none=>(u4:Option Int))=u4)->
  (0<=fu (q.take j)/\fu (q.take j)<=31)/\-(1000000000000000*fu (q.take j))<=Dy (λd=>(gh l i h c.ac rec d).1.N) (q.take j)/\Dy (λd=>(gh l i h c.ac rec d).1.N) (q.take j)<=1000000000000000*fu (q.take j):=by
  intro j hj hn;obtain⟨e,C,h2⟩:=DI j hq;obtain⟨h3,h4⟩:=Qs C;refine⟨U,WW C λp x=>?_⟩;obtain⟨k,hk,rfl⟩:=O' x;rw[U']at hk;have:=hn k U;rw[x! U]at this
  simp_all[CE]
 have f:(∀k,k<a00 q->(match q[k]? with|some p=>if¬(gh l i h c.ac rec p.r).2=0 then M (gh l i h c.ac rec p.r).2 else u4|none=>(u4:Option Int))=u4)->
  -(1000000000000000*fu q)<=Dy (λd=>(gh l i h c.ac rec d).1.N) q/\Dy (λd=>(gh l i h c.ac rec d).1.N) q<=1000000000000000*fu q:=by
  intro hn;refine WW hq λp x=>?_;obtain⟨k,hk,rfl⟩:=O' x
  simp_all[CE]
 generalize F:gh l i h c.ac rec=V at *;have w:∀j (hj:j<a00 q),(∀k,k<j->(match q[k]? with|some p=>if¬(V p.r).2=0 then M (V p.r).2 else u4|none=>(u4:Option Int))=u4)->
  (-1000000000000000<=(V q[j].r).1.N/\(V q[j].r).1.N<=1000000000000000\/¬(V q[j].r).2=0):=by
  intro j hj _;by_cases o:(V q[j].r).2=0
  .left;have:=CE H rec q[j].r p5
   simp_all
  omega
 have e1:ja (Si l h c q rec) (0,0,0)=M (Aj (Dy (λd=>(V d).1.N) q,fu q) (ff (λj=>(match q[j]? with|some p=>if¬(V p.r).2=0 then M (V p.r).2 else u4|none=>(u4:Option Int)).map λe=>((0:Int),e)) q.length)):=by
  refine Ji (step:=Si l h c q rec) (λj=>(Dy (λd=>(V d).1.N) (q.take j),fu (q.take j),(j:Int))) _ q.length _ (λj hj hn=>?_) (λ_=>?_) rfl
  .have t:∀k,k<j->(match q[k]? with|some p=>if¬(V p.r).2=0 then M (V p.r).2 else u4|none=>(u4:Option Int))=u4:=λk hk=>by
    simp_all
   obtain⟨s1,s2,s3⟩:=m j hj t;have hm:=rM hq _ (E' hj);obtain⟨z,G,E⟩:=fZ H rec q[j].r;rw[F]at E;have hb:=w j hj t;unfold Si;dsimp only;rw[J,Ma hj,b?,G,b?,x! hj];dsimp only;rcases E with⟨u,A⟩|⟨u,p,A,D,y4⟩
   .rw[J u,A,J u];rfl
   .rw[s7 (E!.2 u),A,b?];have yN:(V q[j].r).1=p.1:=by rw[D]
    have yC:(V q[j].r).2=p.2.2.Code:=by rw[D]
    by_cases o:p.2.2.Code=0
    .rw[s7 (E!.2 o),yC,s7 (E!.2 o)];have v:-1000000000000000<=p.1.N/\p.1.N<=1000000000000000:=by
      simp_all
     have y:=bl0 (n:=p.1.N) (k:=q[j].To-q[j].r) (B:=1000000000000000) v U;rw[show((1000000000000000:Nat):Int)=1000000000000000 from rfl]at y;rw[m? (n:=q[j].To-q[j].r) U U,m? (n:=p.1.N*(q[j].To-q[j].r)) U U,m? U U,m? U U,Ha U,Ι,x! hj];simp only[Uag,z7,L2,yN];rfl
    .rw[J o,yC,J o];rfl
  simp_all[Si]
 have s:∀{ρ:Type} (g:Int->ρ),ff (λj=>(match q[j]? with|some p=>if¬(V p.r).2=0 then M (V p.r).2 else u4|none=>(u4:Option Int)).map g) q.length=(ff (λj=>match q[j]? with|some p=>if¬(V p.r).2=0 then M (V p.r).2 else u4|none=>(u4:Option Int)) q.length).map g:=λg=>aW9 g;unfold Qo uF;rw[e1,s];obtain⟨d1,d2⟩:=Qs hq
 cases hf:ff (λj=>match q[j]? with|some p=>if¬(V p.r).2=0 then M (V p.r).2 else u4|none=>(u4:Option Int)) q.length with
 |some e=>rfl
 |none=>
  have hw:=f (Mb.1 hf);simp only[Option.map_none,TV,b?];rw[Uk];simp only[b?];have hr:=H.cf.r
  grind[CX]
noncomputable def V0(l:ej) (h:na) (rec:Int):List Int:=ph ((ph (J! (YM rec h.ab))).filter Rq++(ph (J! (Kz l.Tables++Iz l.e))).filter Rq)
noncomputable def Z7(l:ej) (h:na) (m rec:Int):List js:=CA (Rc m).1.To (Rc m).1.r ((V0 l h rec).filter (V' (Rc m).1))
theorem TY(hm:(Rc m).2=0):(Rc m).1.r<(Rc m).1.To/\(Rc m).1.To-(Rc m).1.r<=31/\0<=m/\m<=3599:=by
 grind[Rc,bn]
theorem qI(hl:p? l) (jY:∀x∈l.e,a00 x.n<=64) (hh:h.ab.length<=1048576) (hc:c.am.al.length<=1048576) :
 ∃b,qf l h c=M b/\(b=a29->∃i,Ctx l h c i):=by
 obtain⟨n,e⟩:=FQ hl hc h.Scope;unfold qf;rw[e,Mg l h hl.ns];simp only[b?];by_cases d:n=0
 .rw[s7 (E!.2 d)];refine⟨_,rfl,λhb=>?_⟩;subst d;obtain⟨i,hi,a⟩:=Z9 hl e;exact⟨i,hl,jY,a,p5,hi⟩
 simp_all
noncomputable def xI(l:ej) (h:na) (c:kv) (m rec:Int):nb:=
 if¬(Rc m).2=0 then⟨m,0,3⟩else if(qf l h c).getD a30=a30 then⟨m,0,1⟩else
 ⟨m,(uF (gh l h.Scope.toNat h c.ac rec) c.a1 (Z7 l h m rec)).1,(uF (gh l h.Scope.toNat h c.ac rec) c.a1 (Z7 l h m rec)).2⟩
theorem bL5(rec:Int) (hl:M! l) (hh:h.ab.length<=64):mc l h rec=M (V0 l h rec)/\(V0 l h rec).Pairwise (·<·)/\(V0 l h rec).length<=65536/\
 ∀x,x∈V0 l h rec↔(x∈J! (YM rec h.ab)/\Rq x=a29)\/(x∈J! (Kz l.Tables++Iz l.e)/\Rq x=a29):=by
 have k1:=VB (l:=h.ab) rec U;have k2:=fy hl;have n1:=Zaf Rq (ph (J! (YM rec h.ab)));have n2:=Vx (J! (YM rec h.ab));have n3:=ju (YM rec h.ab);have n4:=WO rec h.ab;have m1:=Zaf Rq (ph (J! (Kz l.Tables++Iz l.e)));have m2:=Vx (J! (Kz l.Tables++Iz l.e));have m3:=ju (Kz l.Tables++Iz l.e);have m4:=YE hl.t;have m5:=SE hl.s;have m6:=hl.nt;have m7:=hl.ns;rw[G!]at m3;have hcd:mc l h rec=M (V0 l h rec):=by
  grind[mc,V0,lst,Y9,uZ]
 grind[V0,Nh]
theorem YF(hm:(Rc m).2=0) (hl:M! l) (hh:h.ab.length<=64):yw (Rc m).1.r (Z7 l h m rec) (Rc m).1.To/\(Z7 l h m rec).length<=65537:=by
 obtain⟨-,h2,h3,-⟩:=bL5 (l:=l) (h:=h) rec hl hh;have hr:=vB hm
 grind[V',Z7,sG,zN]
theorem an2(hm:(Rc m).2=0) (hl:M! l) (hh:h.ab.length<=64):(Z7 l h m rec).length<=65536:=by
 obtain⟨c,h2⟩:=YF (rec:=rec) hm hl hh;have hr:=vB hm;have:∀{a b:Int} {q:List js},yw a q b->(a00 q:Int)<=b-a:=by
  intro a b q
  induction q generalizing a with
  |nil=>intro h;simp only[yw]at h;simp_all
  |cons p q ih=>
   intro h;obtain⟨e1,e2,e3⟩:=h
   grind
 have h4:=this c;have h5:(Rc m).1.To-(Rc m).1.r<=31:=by
  unfold Rc at hm⊢;split at hm
  .rename_i hc;rw[J hc];have:=Ll (y:=1900+((m.toNat / 12:Nat):Int)) (m:=((m.toNat % 12:Nat):Int)+1)
   grind
  omega
 omega
theorem O5:(Rc m).2=0↔0<=m/\m<=3599:=by
 grind[Rc]
theorem VP(hl:p? l) (d:M! l) (hh:h.ab.length<=64) (hc:c.am.al.length<=1048576) {a:Int}(hab:0<=a/\a<=b/\b<=3600/\b-a<=120) (rec:Int) :
 Nf l h c a b rec=M ((s? (b-a).toNat).map λ(j:Nat)=>xI l h c (a+j) rec):=by
 obtain⟨v,m,r⟩:=qI hl (λx hx=>Lag (d.s x hx) s6) (h:=h) U hc;obtain⟨n,hn⟩:∃n,(b-a).toNat=n:=⟨_,rfl⟩;unfold Nf;rw[J,J,J,m? (n:=b-a) U U,b?,s7 p5];have g:uz 24 (nb.mk 0 0 0) 0 (b-a)=M []:=by
  grind[uz]
 rw[g,b?,m,b?];obtain⟨d1,d2,o,-⟩:=bL5 (l:=l) (h:=h) rec d hh;have f:(if v=a29 then(mc l h rec).bind λt=>M (a29,t)else M (a30,([]:List Int)))=M (v,if v=a29 then V0 l h rec else []):=by
  grind
 rw[f,b?];dsimp only;have hlp:ja (jg l h c b rec (if v=a29 then V0 l h rec else [])) (([]:List nb),v,a)=M (.inl ((s? n).map λ(j:Nat)=>xI l h c (a+j) rec)):=by
  refine lf (λj=>((s? j).map λ(j:Nat)=>xI l h c (a+j) rec,v,a+(j:Int))) n _ (λj hj=>?_) ?_ p6
  .have hm:(Rc (a+j)).2=0:=O5.2 U;have hr:=vB hm;obtain⟨p,q,q4,q5⟩:=TY hm;unfold jg;dsimp only;rw[J,ux,b?,s7 (E!.2 hm)];have hw:aa .i64 (a+(j:Int)+1)=a+((j+1:Nat):Int):=by grind[m?]
   have hone:(if v=a29 then(Ro (Rc (a+j)).1 (if v=a29 then V0 l h rec else [])).bind λk=>(Qo l h c k rec).bind λe=>M (a29,e.1,e.2)else M (a30,(0:Int),(1:Int)))=M (v,(xI l h c (a+j) rec).ae,(xI l h c (a+j) rec).Code):=by
    unfold xI;rw[s7 (E!.2 hm),m,aah]
    cases v with
    |false=>rfl
    |true=>
     obtain⟨i,H⟩:=r rfl;have hi:h.Scope.toNat=i:=by have:=H.sc;omega
     obtain⟨c1,-⟩:=YF (rec:=rec) hm d hh;have e1:=Y8 H c1 ⟨p,q⟩ (an2 hm d hh) rec;rw[J rfl,J rfl,s7 p6,yI d2 o hr,b?,hi];rw[show CA (Rc (a+j)).1.To (Rc (a+j)).1.r ((V0 l h rec).filter (V' (Rc (a+j)).1))=Z7 l h (a+j) rec from rfl,e1];rfl
   grind[xI,Lf,xah]
  grind[jg]
 simp_all
theorem xF:(xI l h c m rec).d=m:=by
 grind[xI]
theorem JQ{w D mode L o0:Int}(hD:1<=D/\D<=31) (hm:0<=mode/\mode<=5) (hw:-31000000000000000<=w/\w<=31000000000000000) (a:L*D<=w) (hU:w<=o0*D):L<=(CX w D mode).1/\(CX w D mode).1<=o0:=by
 have e:(CX w D mode).1=TL mode (w / D) (w % D) D:=by
  obtain⟨d,rfl⟩:=wag (show 0<=D by omega);unfold CX;rw[s7 (E!.2 hm),s7,s7]
  grind[jD]
 rw[e];have hr:=dW mode (w / D) (w % D) D;have hr0:=Int.emod_nonneg w (show D≠0 by omega);have hdm:=Int.mul_ediv_add_emod w D;constructor
 .have:L<=w / D:=(Int.le_ediv_iff_mul_le U).2 a;omega
 .have hq:w / D<=o0:=by
   have:=Int.ediv_le_ediv (show 0<D by omega) hU
   grind[Int.mul_ediv_cancel]
  rcases Int.lt_or_eq_of_le hq with h|h
  .omega
  .have h0:w % D=0:=by
    grind
   unfold TL;rw[s7 (by unfold p8;omega)];omega
theorem dF{v:Int->Int}{L o0:Int}:∀{a b:Int}{l:List js},yw a l b->(∀p∈l,L<=v p.r/\v p.r<=o0)->L*fu l<=Dy v l/\Dy v l<=o0*fu l
 |a,b,[],h,hv=>by simp[Dy,fu]
 |a,b,p::l,h,hv=>by
  obtain⟨h1,h2,d⟩:=h;have e:=dF d λq hq=>hv q s5;have c:=hv p p6;have m1:=lah c.1 (show 0<=p.To-p.r by omega);have m2:=lah c.2 (show 0<=p.To-p.r by omega);simp only[Dy,fu,List.map_cons,List.sum_cons]at e⊢
  grind
theorem bb3{l:List js}(h:(uF v r l).2=0):(∀p∈l,(v p.r).2=0)/\(uF v r l).1=max (CX (Dy (λd=>(v d).1.N) l) (fu l) r).1 0:=by
 unfold uF at h⊢;split at h
 .grind[Vb]
 .rename_i hf;refine⟨λp a=>?_,rfl⟩;obtain⟨k,hk,rfl⟩:=O' a
  simp_all[Mb]
theorem ay5{l:List js}(h:(uF v r l).2≠0):(uF v r l).1=0:=by
 unfold uF at h⊢
 grind
theorem c9(a:(xI l h c m rec).Code=0):(Rc m).2=0/\(qf l h c).getD a30=a29/\xI l h c m rec=⟨m,(uF (gh l h.Scope.toNat h c.ac rec) c.a1 (Z7 l h m rec)).1,(uF (gh l h.Scope.toNat h c.ac rec) c.a1 (Z7 l h m rec)).2⟩:=by
 unfold xI at a⊢
 grind
end Go.Proofs.Dev
namespace Go.Tm
variable {l:List Int}{k i j n:Nat}
def Vr(l:List Int) (k:Nat):Int:=l.getD k 0
def swp(l:List Int) (i j:Nat):List Int:=(l.set i (Vr l j)).set j (Vr l i)
def Hp(l:List Int) (n:Nat):Prop:=∀k,0<k->k<n->Vr l ((k-1) / 2)<=Vr l k
def HpU(l:List Int) (j:Nat):Prop:=(∀k,0<k->k<a00 l->k≠j->Vr l ((k-1) / 2)<=Vr l k)/\(∀k,0<j->0<k->k<a00 l->(k-1) / 2=j->Vr l ((j-1) / 2)<=Vr l k)
def HpD(l:List Int) (n i:Nat):Prop:=(∀k,0<k->k<n->(k-1) / 2≠i->Vr l ((k-1) / 2)<=Vr l k)/\(∀k,0<i->0<k->k<n->(k-1) / 2=i->Vr l ((i-1) / 2)<=Vr l k)
theorem gk(h:k<a00 l):Vr l k=l[k]:=by grind[Vr]
theorem WE:(swp l i j).length=a00 l:=by simp[swp]
theorem Dn(hi:i<a00 l) (hj:j<a00 l):Vr (swp l i j) k=if k=j then Vr l i else if k=i then Vr l j else Vr l k:=by
 grind[swp,Vr]
theorem RA(hi:i<a00 l) (hj:j<a00 l):(swp l i j).Perm l:=by
 grind[swp,gk]
theorem wae(h:HpU l j) (hj:j=0\/Vr l ((j-1) / 2)<=Vr l j):Hp l l.length:=by
 intro k a b;by_cases hk:k=j
 .grind
 .exact h.1 k a b hk
theorem be9(h:HpU l j) (hj:0<j) (hl:j<a00 l) (hlt:Vr l j<Vr l ((j-1) / 2)):HpU (swp l ((j-1) / 2) j) ((j-1) / 2):=by
 have c:(j-1) / 2<a00 l:=U
 refine⟨λk b a h2=>?_,λk b a h2 h3=>?_⟩
 .rw[WE]at a;rw[Dn c hl,Dn c hl];by_cases hk:k=j
  .omega
  .rw[s7 hk,s7 h2];by_cases d:(k-1) / 2=j
   .rw[J d];exact h.2 k hj b a d
   .rw[s7 d];by_cases f:(k-1) / 2=(j-1) / 2
    .rw[J f];have:=h.1 k b a hk
     grind
    .rw[s7 f];exact h.1 k b a hk
 .rw[WE]at h2;rw[Dn c hl,Dn c hl];have e:Vr l (((j-1) / 2-1) / 2)<=Vr l ((j-1) / 2):=h.1 _ b c U;rw[s7,s7];by_cases hk:k=j
  .omega
  .rw[s7 hk,s7];have:=h.1 k a h2 hk
   grind
theorem aN6{x:Int}(h:Hp l l.length):HpU (l++[x]) l.length:=by
 refine⟨λk a b h2=>?_,λk a b h2 h3=>?_⟩
 .have hk:k<a00 l:=s5
  have e:∀q,q<a00 l->Vr (l++[x]) q=Vr l q:=λq hq=>by grind[gk]
  rw[e _ U,e _ hk];exact h k a hk
 grind
def CmH(l:List Int) (n i j:Nat):Prop:=0<j/\j<n/\(j-1) / 2=i/\∀k,0<k->k<n->(k-1) / 2=i->Vr l j<=Vr l k
theorem bL3(a:2*i+1<n) (h:2*i+2<n->Vr l (2*i+1)<=Vr l (2*i+2)):CmH l n i (2*i+1):=by
 refine⟨U,a,U,λk h0 h2 h3=>?_⟩
 grind
theorem bZ1(a:2*i+2<n) (h:Vr l (2*i+2)<Vr l (2*i+1)):CmH l n i (2*i+2):=by
 refine⟨U,a,U,λk h0 h2 h3=>?_⟩
 grind
theorem Z1(h:HpD l n i) (hn:n<=2*i+1):Hp l n:=λk a b=>h.1 k a b U
theorem SI(h:HpD l n i) (hc:CmH l n i j) (hle:Vr l i<=Vr l j):Hp l n:=by
 intro k a b;by_cases hk:(k-1) / 2=i
 .have:=hc.2.2.2 k a b hk
  grind
 .exact h.1 k a b hk
theorem uO(h:HpD l n i) (hn:n<=a00 l) (hc:CmH l n i j) (hlt:Vr l j<Vr l i):HpD (swp l i j) n j:=by
 obtain⟨c0,c1,c2,c3⟩:=hc;have hi:i<a00 l:=U
 have hj:j<a00 l:=U
 refine⟨λk b c h2=>?_,λk b c h2 h3=>?_⟩
 .rw[Dn hi hj,Dn hi hj,s7 h2];by_cases hk:k=j
  .omega
  .rw[s7 hk];by_cases a:k=i
   .subst a;rw[s7,J rfl];exact h.2 j b c0 c1 c2
   .rw[s7 a];by_cases d:(k-1) / 2=i
    .simp_all
    .rw[s7 d];exact h.1 k b c d
 .rw[Dn hi hj,Dn hi hj,s7,J c2,s7,s7];have:=h.1 k c h2 U
  simp_all
theorem bi6(h:Hp l l.length) (hl:l.length=n+1):HpD (swp l 0 n) n 0:=by
 refine⟨λk a h1 h2=>?_,λk a=>absurd a U⟩;rw[Dn U U,Dn U U,s7,s7 h2,s7,s7];exact h k a U
theorem aU5(h:Hp l n):∀k,k<n->Vr l 0<=Vr l k:=by
 intro k
 induction k using Nat.strongRecOn with
 |ind k a=>
  intro hk;by_cases h0:k=0
  .simp_all
  .have h1:=a ((k-1) / 2) U U;have h2:=h k U hk;omega
theorem ar5(h:Hp l n) (hn:n<=a00 l):Hp (l.take n) (l.take n).length:=by
 intro k a b;rw[U']at b;have e:∀q,q<n->Vr (l.take n) q=Vr l q:=λq hq=>by
  grind[gk]
 rw[e _ U,e _ U];exact h k a U
end Go.Tm
namespace Go.Proofs.Dev
open Go Go.Tm
variable {d i j k e:Nat}{x:Int}
structure GOk (g:List (List Int)):Prop where
 len:g.length<=1048576
 inr:∀l∈g,∀e∈l,0<=e/\e<a00 g
 nd:∀l∈g,l.Nodup
theorem VF:∀{n:Nat}{l:List Int},l.Nodup->(∀x∈l,0<=x/\x<(n:Int))->l.length<=n
 |0,l,_,h=>by
  cases l with
  |nil=>simp
  |cons x l=>grind[Wah]
 |n+1,l,hd,h=>by
  by_cases hm:(n:Int)∈l
  .have h1:=VF (n:=n) (l:=l.erase n) (hd.erase _) (λx hx=>by
    grind)
   simp_all
  .have:=VF (n:=n) (l:=l) hd (λx hx=>by
    grind)
   omega
def xh(g:List (List Int)) (i d:Nat):List Int:=((s? i).filter λe=>(g.getD e []).contains (d:Int)).map λ(e:Nat)=>(e:Int)
def Ts(g:List (List Int)) (i j d:Nat):List Int:=xh g i d++if((g.getD i []).take j).contains (d:Int)then [(i:Int)]else []
theorem U1{g:List (List Int)}:xh g 0 d=[]:=rfl
theorem V1{g:List (List Int)}:Ts g i 0 d=xh g i d:=by simp[Ts]
theorem T1{g:List (List Int)}:xh g (i+1) d=Ts g i (g.getD i []).length d:=by
 grind[xh,Ts,xah]
theorem wM{g:List (List Int)}(hj:j<(g.getD i []).length) (hnd:(g.getD i []).Nodup):Ts g i (j+1) d=if(g.getD i [])[j]=(d:Int)then Ts g i j d++[(i:Int)]else Ts g i j d:=by
 unfold Ts;rw[Ι,x! hj,Uag];by_cases h:(g.getD i [])[j]=(d:Int)
 .rw[J h];have h1:((g.getD i []).take j++[(g.getD i [])[j]]).contains (d:Int)=a29:=Saf.2 (Ρ.2 (.inr p5));have h2:((g.getD i []).take j).contains (d:Int)=a30:=by
   rw[←gai,Saf]
   grind[O',Fag]
  simp_all
 grind
theorem QI{g:List (List Int)}:(xh g i d).length<=i:=by
 grind[xh]
theorem jaa{g:List (List Int)}:(Ts g i j d).length<=i+1:=by
 grind[Ts,QI]
def cW(g:List (List Int)) (i:Nat):List Int:=((s? i).filter λe=>(g.getD e []).isEmpty).map λ(e:Nat)=>(e:Int)
theorem GS{g:List (List Int)}:cW g (i+1)=if(g.getD i [])=[]then cW g i++[(i:Int)]else cW g i:=by
 grind[cW,xah]
theorem al6{g:List (List Int)}:(cW g i).length<=i:=by
 grind[cW]
def iE(g:List (List Int)) (i:Nat):List Int:=(s? g.length).map λe=>if e<i then((g.getD e []).length:Int)else 0
theorem M4{g:List (List Int)}:iE g 0=h! g.length 0:=by
 unfold iE;apply Yag<;>simp
theorem L4{g:List (List Int)}(hi:i<a00 g):(iE g i).set i ((g.getD i []).length:Int)=iE g (i+1):=by
 unfold iE;apply Yag
 all_goals grind
def iF(g:List (List Int)) (out:List Int) (e:Nat):Int:=(((g.getD e []).filter λd=>!out.contains d).length:Int)
def OR(g:List (List Int)) (out:List Int):List Int:=(s? g.length).map λe=>iF g out e
def kZ(g:List (List Int)) (out:List Int):List Int:=((s? g.length).filter (HS g out)).map λ(d:Nat)=>(d:Int)
structure J2 (g:List (List Int)) (out l:List Int):Prop where
 nd:out.Nodup
 inr:∀x∈out,0<=x/\x<(a00 g:Int)
 K7:∀d:Nat,(d:Int)∈out->∀e∈g.getD d [],e∈out
 perm:l.Perm (kZ g out)
 ord:Tw g (a00 g-out.length) out=wx g
variable {g:List (List Int)}{out l:List Int}
theorem TH:x∈kZ g out↔∃d:Nat,x=d/\d<a00 g/\(d:Int)∉out/\∀e∈g.getD d [],e∈out:=by
 unfold kZ;rw[V!];constructor
 .rintro⟨d,hd,rfl⟩;rw[nah,Fah]at hd;obtain⟨a,h2⟩:=hd;unfold HS at h2
  grind
 .rintro⟨d,rfl,a,h2,h3⟩;refine⟨d,?_,rfl⟩
  simp_all[HS]
theorem Uac:(kZ g out).Nodup:=by
 grind[kZ,xaj,oai]
theorem bR0(h:l.Perm (cW g g.length)):J2 g [] l:=by
 refine⟨List.nodup_nil,λx h=>(pah h).elim,λd h=>(pah h).elim,?_,by rw[List.length_nil,Nat.sub_zero];rfl⟩;have:cW g g.length=kZ g []:=by
  unfold cW kZ;congr 1;refine Mai λd _=>?_;unfold HS;cases hq:g.getD d []<;>simp
 simp_all
theorem aT4:iE g g.length=OR g []:=by
 unfold iE OR;refine cag λe he=>?_;rw[J (Fah.1 he)]
 grind[iF,List.filter_eq_self]
theorem aT1(h:J2 g out []):wx g=if out.length<a00 g then([],9)else(out,0):=by
 rw[←h.ord];have hl:out.length<=a00 g:=VF h.nd h.inr;have he:kZ g out=[]:=List.Perm.eq_nil (h.perm.symm);split
 .rename_i hlt;obtain⟨k,hk⟩:∃k,a00 g-out.length=k+1:=⟨a00 g-out.length-1,U⟩;rw[hk];unfold Tw;have hf:(s? g.length).find? (HS g out)=u4:=by
   rw[List.find?_eq_none];intro d hd hr;have:(d:Int)∈kZ g out:=by
    unfold kZ
    grind
   simp_all
  rw[hf]
 .rw[show g.length-out.length=0 by omega];rfl
def Ez(g:List (List Int)) (out:List Int) (d k:Nat):List Int:=(s? g.length).map λe=>iF g out e-if((xh g g.length d).take k).contains (e:Int)then 1 else 0
def tE(g:List (List Int)) (out:List Int) (d k:Nat):List Int:=((xh g g.length d).take k).filter λe=>iF g out e.toNat==1
theorem vA:x∈xh g g.length d↔∃e:Nat,x=e/\e<a00 g/\(d:Int)∈g.getD e []:=by
 unfold xh
 grind
theorem zX:(xh g g.length d).Nodup:=by
 grind[xh,xaj,oai]
theorem aT5:Ez g out d 0=OR g out:=by
 grind[Ez,OR]
theorem Wad(hnd:l.Nodup) (hk:k<a00 l):(l.take k).contains l[k]=a30:=by
 rw[←gai,Saf]
 grind[O',Fag]
theorem rab(hk:k<(xh g g.length d).length) (he:(xh g g.length d)[k]=(e:Int)) (hl:e<a00 g):(Ez g out d k)[e]?=M (iF g out e):=by
 grind[Ez,Wad,zX]
theorem VM(hk:k<(xh g g.length d).length) (he:(xh g g.length d)[k]=(e:Int)):(Ez g out d k).set e (iF g out e-1)=Ez g out d (k+1):=by
 unfold Ez;apply Yag
 .simp
 .intro q h1 h2;rw[List.getElem_set];simp only[Uah,taj];rw[Ι,x! hk,Uag,he]
  grind
theorem aP1:tE g out d 0=[]:=rfl
theorem oN(hk:k<(xh g g.length d).length) (he:(xh g g.length d)[k]=(e:Int)):tE g out d (k+1)=if iF g out e=1 then tE g out d k++[(e:Int)]else tE g out d k:=by
 unfold tE;rw[Ι,x! hk,Uag,he,Jag]
 grind
theorem Zab:(tE g out d k).length<=a00 g:=by
 grind[tE,QI]
theorem aU6(h:e<a00 g):g.getD e []∈g:=by
 simp_all
theorem GI(b:GOk g) (he:e<a00 g) (hd:(d:Int)∉out):iF g (out++[(d:Int)]) e=iF g out e-if(xh g g.length d).contains (e:Int)then 1 else 0:=by
 unfold iF;have hn:=b.nd _ (aU6 he);have hc:(xh g g.length d).contains (e:Int)=(g.getD e []).contains (d:Int):=by
  rw[kai,Saf,Saf,vA]
  grind
 rw[hc];generalize g.getD e []=l at hn
 induction l with
 |nil=>rfl
 |cons a l ih=>
  grind
theorem T9(h:∀q∈g.getD e [],q∈out):iF g out e=0:=by
 grind[iF,Vah]
theorem Z0(h:iF g out e=0):∀q∈g.getD e [],q∈out:=by
 grind[iF,vaf,Vah]
theorem aT0(A:GOk g) {l':List Int}(h:J2 g out l) (C:(x::l').Perm l) (hmin:∀y∈l',x<=y) :
 ∃d:Nat,x=d/\d<a00 g/\Ez g out d (xh g g.length d).length=OR g (out++[x])/\out.length<a00 g/\∀n,n.Perm (l'++tE g out d (xh g g.length d).length)->J2 g (out++[x]) n:=by
 have s:=C.trans h.perm;obtain⟨d,rfl,u,m,hde⟩:=TH.1 (s.mem_iff.1 (Wah ..));have i:(out++[(d:Int)]).Nodup:=by
  rw[Pai];refine⟨h.nd,p6,λa ha b hb=>?_⟩
  grind
 have f:∀x∈out++[(d:Int)],0<=x/\x<(a00 g:Int):=λx hx=>by
  rcases Ρ.1 hx with c|c
  .exact h.inr x c
  simp_all
 have r:out.length<a00 g:=by
  have:=VF i f
  grind
 have w:(d:Int)∉l'/\l'.Nodup:=List.nodup_cons.1 ((s.nodup_iff).2 Uac);refine⟨d,rfl,u,?_,r,λn p=>⟨i,f,?_,?_,?_⟩⟩
 .simp_all[Ez,OR,GI]
 .intro q hq e he;rcases Ρ.1 hq with c|c
  .exact haj _ (h.K7 q c e he)
  grind
 .refine p.trans ?_;have v:(tE g out d (xh g g.length d).length).Nodup:=by
   grind[tE,zX]
  have j:∀y,y∈tE g out d (xh g g.length d).length↔∃e:Nat,y=e/\e<a00 g/\(d:Int)∈g.getD e []/\iF g out e=1:=by
   intro y;unfold tE;rw[List.take_length,nah,vA]
   grind
  have D:∀y,y∈l'↔y∈kZ g out/\y≠d:=by
   grind
  rw[List.perm_ext_iff_of_nodup ?_ Uac]
  .intro y;rw[Ρ,D,j,TH,TH];constructor
   .rintro(⟨⟨e,rfl,c,h2,o⟩,B⟩|⟨e,rfl,c,h2,o⟩)
    .grind
    .refine⟨e,rfl,c,λhm=>?_,?_⟩
     .rcases Ρ.1 hm with t|t
      .exact m (h.K7 e t d h2)
      grind
     .refine Z0 ?_;rw[GI A c m,J (Saf.2 (vA.2 ⟨e,rfl,c,h2⟩)),o];rfl
   .rintro⟨e,rfl,c,h2,o⟩;have B:(e:Int)∉out:=λhm=>h2 (haj _ hm);have t:(e:Int)≠d:=λhm=>h2 (List.mem_append_right _ (pag.2 hm));by_cases z:(d:Int)∈g.getD e []
    .refine .inr ⟨e,rfl,c,z,?_⟩;have:=T9 o;rw[GI A c m,J (Saf.2 (vA.2 ⟨e,rfl,c,z⟩))]at this;omega
    grind
  .rw[Pai];refine⟨w.2,v,λa ha b hb e=>?_⟩;subst e;obtain⟨e,rfl,c,h2,o⟩:=(j a).1 hb
   grind[TH]
 .rw[←h.ord];obtain⟨k,hk⟩:∃k,a00 g-out.length=k+1:=⟨a00 g-out.length-1,U⟩;rw[hk,G!,yag,show g.length-(a00 out+1)=k by omega];have hf:(s? g.length).find? (HS g out)=M d:=by
   have hr:∀e:Nat,e<a00 g->(HS g out e=a29↔(e:Int)∈kZ g out):=by
    intro e he;unfold kZ
    grind
   rw[List.find?_range_eq_some]
   grind
  rw[Tw,hf]
end Go.Proofs.Dev
set_option maxRecDepth 100000
namespace Go.Proofs.Dev
open Go Go.Tm
noncomputable def Kh(j:List Int):(List Bool×List Int×Int)->Option (Ex (List Bool×List Int×Int) (List Bool×List Int) Unit):=λ(c,f,a)=>
 if a<(a00 j:Int)then
  e? (
   (e! j a).bind λb=>
   (e! c b).bind λg=>
   if g=a30 then
    (put c b a29).bind λh=>
    (app 8 f ([b])).bind λi=>
    M (h,i)
   else
   M (c,f)) λ(d,e)=>
  M (n? (d,e,(aa .i64 (a+1))))
 else
 M (o? (c,f))
noncomputable def lg(t0:(List (List Int))):(List Bool×List Int)->Option (Ex (List Bool×List Int) (List Bool) Unit):=λ(s2,c)=>
 if 0<(a00 c:Int)then
  (e! c 0).bind λd=>
  (jC c 1).bind λe=>
  (e! t0 d).bind λf=>
  (ja (Kh f) (s2,e,0)).bind λy=>match y with
  |.inr _=>u4
  |.inl (a,b)=>
  M (n? (a,b))
 else
 M (o? s2)
noncomputable def Mh(c:List Bool):(List Int×Int)->Option (Ex (List Int×Int) (List Int) Unit):=λ(b,a)=>
 if a<(a00 c:Int)then
  e? (
   (e! c a).bind λe=>
   if e=a29 then
    (app 8 b ([a])).bind λf=>
    M f
   else
   M b) λd=>
  M (n? (d,(aa .i64 (a+1))))
 else
 M (o? b)
noncomputable def Lt(t0:(List (List Int))) (t1:Int):Option (List Int):=
 (uz 1 a30 (a00 t0:Int) (a00 t0:Int)).bind λc=>
 (ja (lg t0) (c,[t1])).bind λy=>match y with
 |.inr _=>u4
 |.inl a=>
 (ja (Mh a) (([]:List Int),0)).bind λy=>match y with
 |.inr _=>u4
 |.inl b=>
 M b
def I?(p:List Bool×List Int) (e:Int):List Bool×List Int:=if p.1[e.toNat]?=M a29 then p else(p.1.set e.toNat a29,p.2++[e])
def Sn(s:List Bool) (b:Int):Prop:=s[b.toNat]?=M a29
instance (s:List Bool) (b:Int):Decidable (Sn s b):=by unfold Sn;infer_instance
def cF(s:List Bool):Nat:=s.count a30
theorem D9:∀{s:List Bool}{i:Nat},s[i]?=M a30->cF (s.set i a29)+1=cF s
 |[],i,h=>by simp at h
 |b::s,0,h=>by simp at h;subst h;simp[cF]
 |b::s,i+1,h=>by
  have:=D9 (s:=s) (i:=i) (by simpa using h);unfold cF at this⊢;simp only[List.set_cons_succ,List.count_cons];omega
def bL6(s:List Bool):cF s<=a00 s:=List.count_le_length
structure Ok (n:Nat) (p:List Bool×List Int):Prop where
 len:p.1.length=n
 q:∀x∈p.2,0<=x/\x<n
 m:p.2.length+cF p.1<=n+1
def MT{n:Nat}{p:List Bool×List Int}{e:Int}(h:Ok n p) (f:0<=e) (g:e<n) :
 Ok n (I? p e)/\(I? p e).2.length+cF (I? p e).1=a00 p.2+cF p.1/\(∀b,0<=b->(Sn (I? p e).1 b↔Sn p.1 b\/b=e))/\(∀x,x∈(I? p e).2↔x∈p.2\/(x=e/\¬Sn p.1 e)):=by
 unfold I?;split
 .rename_i c;refine⟨h,rfl,λb hb=>⟨.inl,λh=>?_⟩,λx=>⟨.inl,λh=>?_⟩⟩
  .rcases h with h|rfl
   .exact h
   .exact c
  .rcases h with h|⟨rfl,h⟩
   .exact h
   .exact(h c).elim
 .rename_i c;have d:e.toNat<a00 p.1:=by rw[h.len];omega
  have hf:p.1[e.toNat]?=M a30:=by
   rw[x! d]at c⊢
   cases hb:p.1[e.toNat]with
   |true=>rw[hb]at c;exact(c rfl).elim
   |false=>rfl
  have hc:=D9 hf;have hm:=h.m;refine⟨⟨by simp[h.len],λx hx=>?_,?_⟩,?_,λb hb=>?_,λx=>?_⟩
  .rcases Ρ.1 hx with hx|hx
   .exact h.q x hx
   .rw[pag]at hx;subst hx;exact⟨f,g⟩
  .simp only[G!,yag];omega
  .simp only[G!,yag];omega
  .unfold Sn;rw[List.getElem?_set];by_cases a:e.toNat=b.toNat
   .rw[J a,J d];exact⟨λ_=>.inr U,λ_=>rfl⟩
   .rw[s7 a];exact⟨.inl,λh=>h.elim id λh=>(a (by rw[h])).elim⟩
  .rw[Ρ,pag];exact⟨λh=>h.imp id λh=>⟨h,c⟩,λh=>h.imp id λh=>h.1⟩
theorem MN{n:Nat}:∀{l:List Int}{p:List Bool×List Int},Ok n p->(∀e∈l,0<=e/\e<n)->
 Ok n (l.foldl I? p)/\(l.foldl I? p).2.length+cF (l.foldl I? p).1=a00 p.2+cF p.1/\(∀b,0<=b->(Sn (l.foldl I? p).1 b↔Sn p.1 b\/b∈l))/\(∀x,x∈(l.foldl I? p).2↔x∈p.2\/(x∈l/\¬Sn p.1 x))
 |[],p,h,_=>by simp[h]
 |e::l,p,h,hl=>by
  obtain⟨j,k⟩:=hl e p6;obtain⟨a1,a2,a3,a4⟩:=MT h j k;obtain⟨f,b2,g,i⟩:=MN a1 (λx hx=>hl x (by simp[hx])) (l:=l);simp only[Yaf];refine⟨f,U,λb hb=>?_,λx=>?_⟩
  .rw[g b hb,a3 b hb,X'];constructor
   .rintro((h|h)|h)
    .exact .inl h
    .exact .inr (.inl h)
    .exact .inr (.inr h)
   .rintro(h|h|h)
    .exact .inl (.inl h)
    .exact .inl (.inr h)
    .exact .inr h
  .rw[i x,a4 x,X'];constructor
   .rintro((h|⟨rfl,h⟩)|⟨h,a⟩)
    .exact .inl h
    .exact .inr ⟨.inl rfl,h⟩
    .exact .inr ⟨.inr h,λd=>a ((a3 x (hl x (by simp[h])).1).2 (.inl d))⟩
   .rintro(h|⟨rfl|h,a⟩)
    .exact .inl (.inl h)
    .exact .inl (.inr ⟨rfl,a⟩)
    .by_cases c:x=e
     .subst c;exact .inl (.inr ⟨rfl,a⟩)
     .exact .inr ⟨h,λd=>((a3 x (hl x (by simp[h])).1).1 d).elim a c⟩
def MZ{i:Int}(h0:0<=i) (h1:i<9223372036854775807):aa .i64 (i+1)=i+1:=De ⟨U,U⟩
theorem aH1{n:Nat}(hn:n<=1048576) {l:List Int}(hl:l.length<=1048576) (c:∀e∈l,0<=e/\e<n):∀(k:Nat) {p:List Bool×List Int}{i:Nat},a00 l-i=k->Ok n p->
 ja (Kh l) (p.1,p.2,(i:Int))=M (.inl ((l.drop i).foldl I? p))
 |0,p,i,hk,d=>by
  rw[Vag U];refine Gb ?_;unfold Kh;simp only;rw[s7];rfl
 |k+1,p,i,hk,d=>by
  have hi:i<a00 l:=U
  obtain⟨f,g⟩:=c l[i] (E' hi);have a:l[i].toNat<a00 p.1:=by rw[d.len];omega
  rw[Eaf hi,Yaf];have b:Kh l (p.1,p.2,(i:Int))=M (.go ((I? p l[i]).1,(I? p l[i]).2,((i+1:Nat):Int))):=by
   unfold Kh;simp only;rw[J];have e1:e! l (i:Int)=M l[i]:=by simp[e!,hi]
   have e2:e! p.1 l[i]=M p.1[l[i].toNat]:=by simp[e!,f,a]
   have e3:aa .i64 ((i:Int)+1)=((i+1:Nat):Int):=by rw[MZ U U];omega
   rw[e1,b?,e2,b?,e3];unfold I?;rw[x! a]
   cases hb:p.1[l[i].toNat]with
   |true=>simp
   |false=>
    have e4:put p.1 l[i] a29=M (p.1.set l[i].toNat a29):=by simp[put,f,a]
    have e5:app 8 p.2 [l[i]]=M (p.2++[l[i]]):=by
     have hm:=d.m;unfold app;rw[if_pos];simp only[yag];omega
    rw[J rfl,e4,b?,e5];simp
  rw[Gc b];exact aH1 hn hl c k (i:=i+1) U (MT d f g).1
def bc4(g:List (List Int)) (a b:Int):Prop:=b=a\/O? g a b
structure Bfs (g:List (List Int)) (a:Int) (p:List Bool×List Int):Prop where
 ok:Ok g.length p
 sound:∀b,0<=b->Sn p.1 b->O? g a b
 qs:∀x∈p.2,bc4 g a x
 done:∀b,0<=b->(b=a\/Sn p.1 b)->b∈p.2\/∀l,g[b.toNat]?=M l->∀c∈l,Sn p.1 c
def bN4{g:List (List Int)}{a:Int}(hn:g.length<=1048576) (y:∀l∈g,a00 l<=1048576/\∀e∈l,0<=e/\e<a00 g):∀(k:Nat) {p:List Bool×List Int},a00 p.2+cF p.1=k->Bfs g a p->
 ∃s,ja (lg g) p=M (.inl s)/\Bfs g a (s,[]):=by
 intro k
 induction k with
 |zero=>
  intro p hk f;obtain⟨s,q⟩:=p;have:q=[]:=vaf (by dsimp only at hk;omega);subst this;exact⟨s,Gb (by simp[lg]),f⟩
 |succ k z=>
  intro p hk f;obtain⟨s,q⟩:=p
  cases q with
  |nil=>exact⟨s,Gb (by simp[lg]),f⟩
  |cons d q=>
   obtain⟨d0,d1⟩:=f.ok.q d p6;have hd:d.toNat<a00 g:=U
   obtain⟨gl,ge⟩:=y g[d.toNat] (E' hd);have o:Ok g.length (s,q):=⟨f.ok.len,λx hx=>f.ok.q x (by simp[hx]),by have:=f.ok.m;simp only[w!]at this⊢;omega⟩;obtain⟨A,B,t,w⟩:=MN o ge (l:=g[d.toNat]);have j:lg g (s,d::q)=M (.go (g[d.toNat].foldl I? (s,q))):=by
    unfold lg;simp only;rw[J p6];have e1:e! (d::q) 0=M d:=rfl;have e2:jC (d::q) 1=M q:=by simp[jC]
    have e3:e! g d=M g[d.toNat]:=by simp[e!,d0,hd]
    have e4:=aH1 hn gl ge _ (p:=(s,q)) (i:=0) rfl o;simp only[List.drop_zero,Yai]at e4;rw[e1,b?,e2,b?,e3,b?,e4];rfl
   rw[Gc j];have v:q.length+cF s=k:=by simp only[w!]at hk;omega
   refine z (by rw[B];exact v) ⟨A,λb hb r=>?_,λx hx=>?_,λb hb u=>?_⟩
   .rcases(t b hb).1 r with h|h
    .exact f.sound b hb h
    .rcases f.qs d p6 with rfl|hr
     .exact .one (x! hd) h
     .exact .step hr (x! hd) h
   .rcases(w x).1 hx with h|⟨h,-⟩
    .exact f.qs x (by simp[h])
    .right;rcases f.qs d p6 with rfl|hr
     .exact .one (x! hd) h
     .exact .step hr (x! hd) h
   .have up:∀c,0<=c->Sn s c->Sn (g[d.toNat].foldl I? (s,q)).1 c:=λc hc h=>(t c hc).2 (.inl h);by_cases n:b=d
    .subst n;right;intro l hl c hc;rw[x! hd]at hl;injection hl with hl;subst hl;exact(t c (ge c hc).1).2 (.inr hc)
    .have key:(b=a\/Sn s b)\/(b∈g[d.toNat]/\¬Sn s b):=by
      rcases u with h|h
      .exact .inl (.inl h)
      .rcases(t b hb).1 h with h|h
       .exact .inl (.inr h)
       .by_cases r:Sn s b
        .exact .inl (.inr r)
        .exact .inr ⟨h,r⟩
     rcases key with h|h
     .rcases f.done b hb h with h|h
      .rcases X'.1 h with h|h
       .exact(n h).elim
       .exact .inl ((w b).2 (.inl h))
      .right;intro l hl c hc;have hm:l∈g:=mag hl;exact up c ((y l hm).2 c hc).1 (h l hl c hc)
     .exact .inl ((w b).2 (.inr h))
theorem aH0{s:List Bool}(e:s.length<=1048576):∀(k:Nat) {i:Nat},a00 s-i=k->i<=a00 s->
 ja (Mh s) (((s? i).map λ(k:Nat)=>(k:Int)).filter (λb=>D1 (Sn s b)),(i:Int))=M (.inl (((s? s.length).map λ(k:Nat)=>(k:Int)).filter λb=>D1 (Sn s b)))
 |0,i,hk,hi=>by
  have:i=a00 s:=U
  subst this;refine Gb ?_;unfold Mh;simp
 |k+1,i,hk,hi=>by
  have a:i<a00 s:=U
  have hlen:(((s? i).map λ(k:Nat)=>(k:Int)).filter (λb=>D1 (Sn s b))).length<=i:=Lag (Zaf _ _) p6;have d:Mh s (((s? i).map λ(k:Nat)=>(k:Int)).filter (λb=>D1 (Sn s b)),(i:Int))=M (.go (((s? (i+1)).map λ(k:Nat)=>(k:Int)).filter (λb=>D1 (Sn s b)),((i+1:Nat):Int))):=by
   unfold Mh;simp only;rw[J];have e1:e! s (i:Int)=M s[i]:=by simp[e!,a]
   have e3:aa .i64 ((i:Int)+1)=((i+1:Nat):Int):=by rw[MZ U U];omega
   rw[e1,b?,e3,xah,List.map_append,Jag]
   cases hb:s[i]with
   |true=>
    have c:Sn s ((i:Nat):Int):=by unfold Sn;simp[a,hb]
    have e5:app 8 (((s? i).map λ(k:Nat)=>(k:Int)).filter (λb=>D1 (Sn s b))) [(i:Int)]=M (((s? i).map λ(k:Nat)=>(k:Int)).filter (λb=>D1 (Sn s b))++[(i:Int)]):=by
     unfold app;rw[if_pos];simp only[yag];omega
    rw[J rfl,e5];simp[c]
   |false=>
    have c:¬Sn s ((i:Nat):Int):=by unfold Sn;simp[a,hb]
    rw[s7 p6];simp[c]
  rw[Gc d];exact aH0 e k (i:=i+1) U U
def W5{t0:List (List Int)}{t1:Int}{r:List Int}(h:lj t0 t1=M r):Lt t0 t1=M r:=by
 unfold lj at h;split at h
 .rename_i hc;obtain⟨hn,l,m,o⟩:=hc;obtain rfl:=R' h;unfold Lt;have e1:uz 1 a30 (a00 t0:Int) (a00 t0:Int)=M (h! t0.length a30):=by
   unfold uz;rw[J ⟨U,U,U,aaQ⟩];simp
  have hb:Bfs t0 t1 (h! t0.length a30,[t1]):=by
   have f:∀b,¬Sn (h! t0.length a30) b:=λb hb=>by
    unfold Sn at hb;rw[List.getElem?_replicate]at hb;split at hb<;>simp at hb
   refine⟨⟨p6,λx hx=>?_,?_⟩,λb _ g=>(f b g).elim,λx hx=>?_,λb _ g=>?_⟩
   .rw[pag]at hx;subst hx;exact⟨m,o⟩
   .have:=bL6 (h! t0.length a30);simp only[List.length_replicate,yag]at this⊢;omega
   .rw[pag]at hx;exact .inl hx
   .rcases g with rfl|g
    .exact .inl p6
    .exact(f b g).elim
  obtain⟨s,e2,hb⟩:=bN4 hn l _ rfl hb;have e:s.length=a00 t0:=hb.ok.len;have e3:=aH0 (s:=s) U _ (i:=0) rfl U;simp only[List.range_zero,List.map_nil,List.filter_nil,Yai]at e3;rw[e1,b?,e2,b?];simp only;rw[e3,b?];simp only;rw[e];unfold lK;congr 1;apply Mai;intro b j;obtain⟨k,-,rfl⟩:=V!.1 j;have c:∀b,O? t0 t1 b->0<=b/\Sn s b:=by
   intro b hr
   induction hr with
   |one h d=>
    have hm:=mag h;refine⟨((l _ hm).2 _ d).1,?_⟩;rcases hb.done t1 m (.inl rfl)with a|a
    .cases a
    .exact a _ h _ d
   |step _ hl hc n=>
    have hm:=mag hl;refine⟨((l _ hm).2 _ hc).1,?_⟩;rcases hb.done _ n.1 (.inr n.2)with a|a
    .cases a
    .exact a _ hl _ hc
  exact decide_eq_decide.2 ⟨λh=>hb.sound _ U h,λh=>(c _ h).2⟩
 .cases h
end Go.Proofs.Dev
set_option maxRecDepth 10000
namespace Go.Proofs.Dev
open Go Go.Tm
end Go.Proofs.Dev
