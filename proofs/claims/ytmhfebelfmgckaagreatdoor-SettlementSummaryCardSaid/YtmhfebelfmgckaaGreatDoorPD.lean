/-
  The functions as plain partial functions, and plain lemmas about them: no condition.
-/
import Derived.Test.YtmhfebelfmgckaaGreatDoorPC
open Option renaming some->M,none->q6
open Decidable renaming decide->s5
open Go.Tm.Ex renaming go->i!,brk->i?,ret->l?
open Bool renaming and_eq_true->E',eq_iff_iff->Hac,false_eq_true->t!,not_eq_true->Kac,not_false->iac,not_true->γ,true_eq_false->O!,true->a35,false->a36
open ByteArray renaming mk->n?
open Classical renaming not_not->v!
open Decidable renaming byContradiction->Jad,not_not->Kab
open Int renaming eq_ofNat_of_zero_le->W!,le_refl->Vad,lt_or_gt_of_ne->uae,mul_le_mul_of_nonneg_right->kac,natAbs_mul->Kad,natCast_zero->vad,reduceBEq->E?,reduceEq->t?,toNat_natCast->Rab
open List renaming all_eq_true->R',any_eq_false->Eae,contains_iff_mem->Ξ,drop_eq_getElem_cons->Yaa,drop_eq_nil_of_le->Aac,eq_nil_of_length_eq_zero->Ε,eq_of_mem_replicate->rac,ext_getElem->Qab,filter_append->ι,filter_congr->Qad,filter_eq_nil_iff->Bac,flatMap_append->pae,foldl_cons->Z',getElem?_eq_getElem->n!,getElem_map->Mac,getElem_mem->y!,getElem_of_mem->H',getElem_range->xae,length_append->Χ,length_cons->H!,length_eq_zero_iff->jad,length_filter_le->Ο,length_map->Bab,length_singleton->mab,length_take->bac,map_congr_left->gac,mem_append->Β,mem_append_left->lae,mem_cons->Y',mem_cons_self->kad,mem_filter->mac,mem_map->X',mem_of_find?_eq_some->dad,mem_of_getElem?->uab,mem_of_mem_take->Mab,mem_range->uac,mem_singleton->ψ,mem_take_iff_getElem->Mad,nodup_append->Fae,not_mem_nil->Yad,pairwise_iff_getElem->Dab,pairwise_lt_range->mad,range->o?,range_succ->nac,replicate->l!,replicate_succ->Ψ,set_append_right->Fac,set_cons_zero->Xab,take_add_one->O',take_length->η,take_of_length_le->dac,length->a00
open List.Pairwise renaming imp->Dae
open Nat renaming le_trans->P',mul_le_mul->Vab,zero_le->M'
open Option renaming any_some->qac,bind->b?,bind_some->a!,getD_some->Τ,map_none->Ead,toList_some->pab
open Option.some renaming inj->J!
set_option linter.all false
set_option maxRecDepth 10000
set_option maxHeartbeats 1000000
namespace Go.Proofs.Dev
open Go Go.Tm
variable {a b N d m sc rec:Int}{α:Type}{k:Bool->Option α}{env:ia}{args:List bz}{e:List fr}{out:List Int}{w:List Bool}{f:Nat->Bool}{step:List Bool×Int->Option (Ex (List Bool×Int) (List Bool) Unit)}{p:hO}{ms:ek}{fs:List ml}{q:List hO}
theorem av3{op:Int}{a b:bz}(c:op=13\/op=14\/op=15\/op=16):Aa op a b=M (decide
 ((op=13/\b.a=2/\(a.a=2\/a.a=3))\/(op=14/\b.a=4/\(a.a=3\/a.a=4))\/(op=15/\((b.a=2/\(a.a=2\/a.a=3))\/(a.a=3/\b.a=3)))\/(op=16/\a.a=3/\b.a=3))):=by
 rcases c with rfl|rfl|rfl|rfl<;>simp only[Aa,t?,w3,s7,a!,E?,t!,false_and,G2,false_or,or_false]
 .grind
 .grind
 .by_cases g1:b.a=2
  .by_cases g2:a.a=2<;>by_cases g3:a.a=3<;>simp[g1,g2,g3]
  grind
 grind
theorem yR{x y:Int}(hx:-1000000000000000<=x/\x<=1000000000000000) (hy:-1000000000000000<=y/\y<=1000000000000000):Qv x y=M (if(x*y).natAbs<=1000000000000000 then(x*y,0)else(0,3)):=by
 unfold Qv;rw[rM U U,rM U U,R3 U U,a!];dsimp only;have hn:x.natAbs*y.natAbs=(x*y).natAbs:=(Kad x y).symm;have hb:(x*y).natAbs<=1000000000000000*1000000000000000:=by rw[←hn];exact Vab U U
 rw[hn];obtain⟨p,e⟩:∃p,(x*y).natAbs=p:=⟨_,rfl⟩;rw[e]at hb⊢;have hs:¬(x*y).natAbs=0->(¬(s5 (x<0))=(s5 (y<0))↔x*y<0):=by
  intro h0;have c:x≠0:=o0
  have h2:y≠0:=o0
  rcases uae c with a|a<;>rcases uae h2 with b|b
  .grind
  .have:=Int.mul_neg_of_neg_of_pos a b
   grind
  .have:=Int.mul_neg_of_pos_of_neg a b
   grind
  grind
 by_cases d:p<=1000000000000000
 .rw[J d];have c:p / 18446744073709551616=0:=U
  have h2:p % 18446744073709551616=p:=U
  rw[c,h2,J (by rfl),a!,p5 o0,g! (n:=(p:Int)) U U,g! U U]
  grind
 grind
theorem cq3{x:Int}(hx:-9223372036854775807<=x/\x<=9223372036854775807) {k:Int->Option α}:(b? (α:=Int) (if x<0 then M (aa .i64 (0-x))else M x) k)=k (x.natAbs:Int):=by
 by_cases h:x<0
 .rw[J h,a!,g! U U];grind
 grind
theorem rQ{k:Int}{most:Nat}(hk:(k=2/\most=1000000000000)\/(k=3/\most=1000000000000000)) {x y:Int}(hx:-1000000000000000<=x/\x<=1000000000000000) (hy:-1000000000000000<=y/\y<=1000000000000000) :
 Iq k x y=M (if(x*y).natAbs<=1000000000000000 then Xq ⟨k,0,x*y⟩else(⟨0,0,0⟩,3)):=by
 unfold Iq;have a:Bt k=M (-(most:Int),(most:Int)):=by
  rcases hk with⟨rfl,rfl⟩|⟨rfl,rfl⟩<;>rfl
 rw[a,a!,cq3 U,cq3 U];have b:∀{α:Type} (f:Bool->Option α),(b? (α:=Bool) (if¬(y.natAbs:Int)=0 then(quo .i64 (most:Int) (y.natAbs:Int)).bind λd=>M (s5 (d<(x.natAbs:Int)))else M a36) f)=f (s5 (most<x.natAbs*y.natAbs)):=by
  intro α f;by_cases h0:y.natAbs=0
  .simp_all
  .rw[J,jT U U,a!,a!];congr 1;rw[decide_eq_decide];rw[←Nat.div_lt_iff_lt_mul U];omega
 dsimp only;rw[b];have hn:x.natAbs*y.natAbs=(x*y).natAbs:=(Kad x y).symm;have hb:(x*y).natAbs<=1000000000000000*1000000000000000:=by rw[←hn];exact Vab U U
 rw[hn];have c:Ga ⟨k,0,x*y⟩↔(x*y).natAbs<=most:=by unfold Ga;grind
 by_cases ho:most<(x*y).natAbs
 .rw[J l4];have hnp:Xq ⟨k,0,x*y⟩=(⟨0,0,0⟩,3):=p5 (λh=>absurd (c.1 (D1 h)) U)
  simp_all
 .rw[p5 l4,J,g! U U,Cb];rfl
theorem eM{op:Int}{a b:bz}(g:op=13\/op=14\/op=15\/op=16) (ha:Ga a) (hb:Ga b):tn (Qb ⟨op,N⟩ [a,b] env) (ob ⟨op,N⟩ [a,b] env):=by
 have h1:=ha.range;have h2:=hb.range;have c:ea ⟨op,N⟩ [a,b] env=_:=(MD U).trans (av3 g);have f:qa ⟨op,N⟩ [a,b] env=Ub ⟨op,N⟩ a b:=by
  rw[Yx U];rcases g with rfl|rfl|rfl|rfl<;>simp only[Ma,t?,E?,w3,s7,t!,a!,oj]
 have d:ob ⟨op,N⟩ [a,b] env=Jd ⟨op,N⟩ a b:=by
  rcases g with rfl|rfl|rfl|rfl<;>simp only[ob,Bb,Int.reduceLE,w3,G1,a!,oj]
 rcases g with rfl|rfl|rfl|rfl
 .simp only[t?,G2,false_and,or_false]at c;have i:Jd ⟨13,N⟩ a b=if b.a=2/\(a.a=2\/a.a=3)then Iq a.a a.N b.N else M (⟨0,0,0⟩,8):=by
   simp only[Jd,t?,w3,s7,a!,oj]
   grind
  by_cases hc:b.a=2/\(a.a=2\/a.a=3)
  .rw[s6 hc]at c;rw[J hc]at i;have j:=rQ (k:=a.a) (x:=a.N) (y:=b.N) (most:=if a.a=2 then 1000000000000 else 1000000000000000) (by
    grind) U U
   have hq:Ub ⟨13,N⟩ a b=M (⟨a.a,0,(if(a.N*b.N).natAbs<=1000000000000000 then(a.N*b.N,(0:Int))else(0,3)).1⟩,(if(a.N*b.N).natAbs<=1000000000000000 then(a.N*b.N,(0:Int))else(0,3)).2):=by
    simp_all[Ub,yR]
   by_cases h:(a.N*b.N).natAbs<=1000000000000000
   .rw[J h]at j hq
    grind[qe]
   .rw[p5 h]at j hq
    grind[qe]
  .rw[u4 hc]at c;rw[p5 hc]at i
   grind[An]
 .simp only[t?,G2,false_and,or_false,false_or]at c;by_cases hc:b.a=4/\(a.a=3\/a.a=4)
  .rw[s6 hc]at c;rcases hc with⟨c1,c2|c2⟩
   .refine qe (v:=⟨a.a,0,(mdS a.N b.N 1000000 N).1⟩) (e:=(mdS a.N b.N 1000000 N).2) c (f.trans ?_) (d.trans ?_)
    all_goals simp_all[Ub,Jd,xI,iQ,Cp]
   .refine qe (v:=⟨a.a,0,(VV a.N b.N N).1⟩) (e:=(VV a.N b.N N).2) c (f.trans ?_) (d.trans ?_)
    .simp_all[Ub,sO]
    simp_all[Jd,lW,Cp]
  .rw[u4 hc]at c;refine An c (d.trans ?_)
   grind[Jd]
 .simp only[t?,G2,false_and,or_false,false_or]at c;by_cases hc:(b.a=2/\(a.a=2\/a.a=3))\/(a.a=3/\b.a=3)
  .rw[s6 hc]at c;rcases hc with⟨c1,c2⟩|⟨c1,c2⟩
   .refine qe (v:=⟨a.a,0,(OQ a.N b.N N).1⟩) (e:=(OQ a.N b.N N).2) c (f.trans ?_) (d.trans ?_)
    .simp_all[Ub,Ah]
    .simp only[Jd,t?,w3,s7,c1,E?,beq_self_eq_true,a!,vC,Cp,oj,t!]
     grind
   .refine qe (v:=⟨4,0,(frS a.N b.N N).1⟩) (e:=(frS a.N b.N N).2) c (f.trans ?_) (d.trans ?_)
    .simp_all[Ub,tC]
    simp_all[Jd,yI,Cp]
  .rw[u4 hc]at c;refine An c (d.trans ?_)
   grind[Jd]
 .simp only[t?,G2,false_and,or_false,false_or]at c;by_cases hc:a.a=3/\b.a=3
  .rw[s6 hc]at c;obtain⟨c1,c2⟩:=hc;refine qe (v:=⟨a.a,0,(rtS a.N b.N N).1⟩) (e:=(rtS a.N b.N N).2) c (f.trans ?_) (d.trans ?_)
   .simp_all[Ub,ED]
   simp_all[Jd,ML,Cp]
  .rw[u4 hc]at c;refine An c (d.trans ?_)
   grind[Jd]
theorem am0{op:Int}(hop:36<=op/\op<=39) (t:ej):Oc op t=M (s5 (t.g=0/\((op=36/\(t.a=2\/t.a=3))\/(op=39/\2<=t.a/\t.a<=5)\/(op≠36/\op≠39/\t.a=1))))/\qu op t=M (s5 (t.g=0/\((op=36/\(t.a=2\/t.a=3))\/(op=39/\2<=t.a/\t.a<=5)\/(op≠36/\op≠39/\t.a=1)))):=by
 unfold Oc qu;simp only[fR,wc];by_cases hE:t.g=0
 case neg=>grind
 have hk:(2<=t.a/\t.a<=5)↔((2<=t.a/\t.a<=4)\/t.a=5):=U
 have:op=36\/op=37\/op=38\/op=39:=U
 rcases this with rfl|rfl|rfl|rfl
 all_goals grind
structure cB3 (op:Int) (t:ej) (i:Nat) (x:Int×Int×Int×Int) (y:Int×Int):Prop where
 k:x.1=t.a
 e:x.2.1=0
 n:x.2.2.1=y.1
 xi:x.2.2.2=(i:Int)
 yi:y.2=(i:Int)
 pl:(op=39/\i=0/\y.1=0)\/Ga ⟨t.a,0,y.1⟩
variable {op x y:Int}{t:ej}
theorem as2(he:w? env) (w:36<=op/\op<=39) (hf:Kw ⟨op,N⟩ env=a35):tn (Qb ⟨op,N⟩ [] env) (ob ⟨op,N⟩ [] env):=by
 have p:0<=N/\N<(a00 env.au:Int):=by
  grind[Kw]
 have hi:c! env.au N=M (env.au[N.toNat]' U):=Nh p.1 p.2;generalize env.au[N.toNat]' U=t at hi;obtain⟨m1,m2⟩:=am0 w t;have o:ea ⟨op,N⟩ [] env=Oc op t:=by
  unfold ea
  grind
 have D:qa ⟨op,N⟩ [] env=Pf ⟨op,N⟩ env:=by
  unfold qa;dsimp only;have Q:(op==5)=a36:=o0
  rw[p5,p5,p5,p5,Q,a!,p5 l5,p5,p5,p5,p5,p5,I8,s6 w,J rfl,oj]
 have H:ob ⟨op,N⟩ [] env=Hq ⟨op,N⟩ env:=by
  simp_all[ob]
 rw[m1]at o;have a:=H;unfold Hq at a;dsimp only at a;rw[hi,a!,m2,a!]at a;by_cases hc:t.g=0/\((op=36/\(t.a=2\/t.a=3))\/(op=39/\2<=t.a/\t.a<=5)\/(op≠36/\op≠39/\t.a=1))
 case neg=>
  grind[An]
 rw[s6 hc,p5 l5]at a;rw[s6 hc]at o;obtain⟨R,S⟩:=hc;have m:(if op=37 then M (1:Int)else M 0)=M (if op=37 then 1 else 0):=o0
 rw[m,a!]at a;have F:=oI (s1:=vd ⟨op,N⟩ env t) (s2:=Dt ⟨op,N⟩ env t) (λx y=>∃i:Nat,i<=a00 env.s/\cB3 op t i x y) (λx=>(a00 env.s-x.2.2.2).toNat) (λx y=>x.1=t.a/\x.2.1=0/\x.2.2=y/\((op=39/\env.s.length=0)\/Ga ⟨t.a,0,y⟩)) (λx y=>x=y/\x.2≠0/\x.1=⟨0,0,0⟩) (by
  rintro⟨j6,P,c,x4⟩ ⟨y1,y2⟩ ⟨i,hil,⟨g1,g2,g3,g4,g5,A⟩⟩;dsimp only at g1 g2 g3 g4 g5 A;subst g1;subst g2;subst g3;subst g4;subst g5;unfold vd Dt;dsimp only;by_cases G:i<a00 env.s
  case neg=>
   rw[p5,p5]
   grind
  rw[J,J,wa G];simp only[a!];generalize env.s[i]=l;by_cases hN:(a00 l:Int)<=N
  .rw[p5];simp
  rw[J hN,Nh p.1 U];simp only[a!,Pv,pW];generalize l[N.toNat]' U=v;by_cases hv0:v.a=0
  .simp_all
  rw[show(v.a==0)=a36 by simp[hv0]];simp only[t!,s7];by_cases E:(Nz v&&(s5 (v.a=t.a)&&s5 (v.g=t.g)))=a35
  case neg=>
   simp_all
  rw[E];simp only[E',w2]at E;obtain⟨T,K,hve⟩:=E;have s:Ga v:=D1 T;have hvr:=s.range;simp only[O!,s7];have hacc:-1000000000000000<=c/\c<=1000000000000000:=by
   rcases A with⟨_,_,h⟩|h
   .omega
   .have:=h.range;simp_all
  have hvt:v=⟨t.a,0,v.N⟩:=by
   obtain⟨k,e,n⟩:=v
   simp_all
  have ops:op=36\/op=37\/op=38\/op=39:=U
  rcases ops with rfl|rfl|rfl|rfl
  ·
    simp only[t?,w3,Pu,g! (n:=c+v.N) U U,a!,pb,Cb,Xq];by_cases I:Nz ⟨t.a,0,c+v.N⟩=a35
    .rw[I];simp only[O!,s7,w3,a!,not_true];rw[pa (by have:=he.mem;omega)];exact .inl ⟨_,_,rfl,rfl,⟨i+1,U,⟨rfl,rfl,rfl,rfl,rfl,.inr (D1 I)⟩⟩,o0⟩
    .rw[Bool.eq_false_iff.2 I];simp
  ·
    have q:t.a=1:=U
    have j8:=iT s U;have L:c=0\/c=1:=by
     rcases A with⟨h,_⟩|h
     .omega
     .exact(iT h q).2
    have r:c*v.N=min c v.N:=by
     grind
    have b:Ga ⟨t.a,0,min c v.N⟩:=o0
    simp only[t?,w3,s7,Pu,r,g! (n:=min c v.N) U U,a!,Cb,dD b,not_true];rw[pa (by have:=he.mem;omega)];exact .inl ⟨_,_,rfl,rfl,⟨i+1,U,⟨rfl,rfl,rfl,rfl,rfl,.inr b⟩⟩,o0⟩
  ·
    have q:t.a=1:=U
    have j8:=iT s U;have L:c=0\/c=1:=by
     rcases A with⟨h,_⟩|h
     .omega
     .exact(iT h q).2
    have r:(if c<v.N then M v.N else M c)=M (max c v.N):=by
     grind
    have b:Ga ⟨t.a,0,max c v.N⟩:=o0
    simp only[t?,w3,s7,Pu,r,a!,Cb,dD b,not_true];rw[pa (by have:=he.mem;omega)];exact .inl ⟨_,_,rfl,rfl,⟨i+1,U,⟨rfl,rfl,rfl,rfl,rfl,.inr b⟩⟩,o0⟩
  ·
    have j:∀{α:Type} (f:Bool->Option α),(b? (α:=Bool) (if¬(i:Int)=0 then M (s5 (c<v.N))else M a35) f)=f (s5 ((i:Int)=0\/c<v.N)):=by
     grind
    have g:∀{α:Type} (f:Bool->Option α),(b? (α:=Bool) (if((i:Int)==0)=a36 then M (s5 (c<v.N))else M a35) f)=f (s5 ((i:Int)=0\/c<v.N)):=by
     grind
    simp only[t?,w3,s7,Pu,j,g];by_cases hb:(i:Int)=0\/c<v.N
    .rw[s6 hb];have b:Ga ⟨t.a,0,v.N⟩:=o0
     simp only[w3,a!,Cb,dD b,not_true,s7];rw[pa (by have:=he.mem;omega)];exact .inl ⟨_,_,rfl,rfl,⟨i+1,U,⟨K,o0,rfl,rfl,rfl,.inr b⟩⟩,o0⟩
    .rw[u4 hb];have b:Ga ⟨t.a,0,c⟩:=by
      grind
     simp only[t!,s7,a!,Cb,dD b,not_true];rw[pa (by have:=he.mem;omega)];exact .inl ⟨_,_,rfl,rfl,⟨i+1,U,⟨rfl,rfl,rfl,rfl,rfl,.inr b⟩⟩,o0⟩) env.s.length (t.a,t.g,(if op=37 then 1 else 0),0) ((if op=37 then 1 else 0),0) l5 ⟨0,M' _,rfl,R,rfl,rfl,rfl,by
    rcases S with⟨h,h2⟩|⟨h,h2⟩|⟨h,h2,h3⟩
    .right;rw[p5];unfold Ga;grind
    .omega
    .right;unfold Ga;grind⟩
 have u:∀{α:Type} (f:Bool->Option α),(b? (α:=Bool) (if op=39 then M ((a00 env.s:Int)==0)else M a36) f)=f (s5 (op=39/\env.s.length=0)):=by
  intro α f;by_cases h:op=39
  .rw[J h,a!];congr 1
   grind
  simp_all
 have d:=D;unfold Pf at d;dsimp only at d;rw[hi,a!,m,a!,u]at d;simp only[u]at a;rcases F with⟨⟨b1,b2,b3⟩,y,j4,O,q1,B,z,q4⟩|⟨x,y,j4,O,rfl,B,z⟩
 .dsimp only at q1 B z;subst q1;subst B;subst z;rw[j4]at d;rw[O,a!]at a;dsimp only at a;by_cases C:op=39/\env.s.length=0
  .grind[qe]
  .rw[u4 C]at d a;simp only[t!,s7,a!,Cb]at d a
   grind[qe]
 .rw[j4]at d;rw[O,a!]at a;dsimp only at a;obtain⟨j6,P⟩:=x;dsimp only at B z;subst z;by_cases C:op=39/\env.s.length=0
  .exfalso;have:ca (vd ⟨op,N⟩ env t) (t.a,t.g,(if op=37 then 1 else 0),0)=M (.inl (t.a,t.g,(if op=37 then 1 else 0))):=by
    simp_all[vd,Ob]
   simp_all
  .rw[u4 C]at d;exact qe (v:=⟨0,0,0⟩) (e:=P) o d l4
theorem LX{n:fr}(he:w? env) (hN:Zb n) (hl:args.length<=3):tn (og n args env) (Zr n args env):=by
 refine UX hl λd h2 h3 h4 h5=>?_;obtain⟨op,N⟩:=n;dsimp only at d h2;have two:(11<=op/\op<=24)\/(27<=op/\op<=30)->∃a b,args=[a,b]:=by
  intro h;have:args.length=2:=by grind[Fb]
  match args,this with
  |[a,b],_=>simp
 have one:op=10\/op=25\/(31<=op/\op<=34)->∃a,args=[a]:=by
  intro h;have:args.length=1:=by grind[Fb]
  match args,this with
  |[a],_=>simp
 have zero:op<=9\/35<=op->args=[]:=by
  grind[Fb,jad]
 rcases rC d with h|h|h|h|h|h|h|h|h|h|h|h|h|h|h|h|h|h|h|h|h|h|h|h|h|h|h|h|h|h|h|h|h|h|h|h|h|h|h<;>subst h
 .grind[nE]
 .grind[nE]
 .grind[nE]
 .grind[nE]
 .grind[nE]
 .grind[bp5]
 .grind[bp4]
 .grind[bp3]
 .grind[bp2]
 .obtain⟨a,rfl⟩:=one U;grind[aP4]
 .obtain⟨a,b,rfl⟩:=two U;grind[P0]
 .obtain⟨a,b,rfl⟩:=two U;grind[P0]
 .obtain⟨a,b,rfl⟩:=two U;grind[eM]
 .obtain⟨a,b,rfl⟩:=two U;grind[eM]
 .obtain⟨a,b,rfl⟩:=two U;grind[eM]
 .obtain⟨a,b,rfl⟩:=two U;grind[eM]
 .obtain⟨a,b,rfl⟩:=two U;grind[Q0]
 .obtain⟨a,b,rfl⟩:=two U;grind[Q0]
 .obtain⟨a,b,rfl⟩:=two U;grind[S0]
 .obtain⟨a,b,rfl⟩:=two U;grind[S0]
 .obtain⟨a,b,rfl⟩:=two U;grind[T0]
 .obtain⟨a,b,rfl⟩:=two U;grind[T0]
 .obtain⟨a,b,rfl⟩:=two U;grind[U0]
 .obtain⟨a,b,rfl⟩:=two U;grind[U0]
 .obtain⟨a,rfl⟩:=one U;grind[aP3]
 .have:args.length=3:=by grind[Fb]
  match args,this with
  |[a,b,c],_=>grind[aP2]
 .obtain⟨a,b,rfl⟩:=two U;grind[aP1]
 .obtain⟨a,b,rfl⟩:=two U;grind[aP0]
 .obtain⟨a,b,rfl⟩:=two U;grind[V0]
 .obtain⟨a,b,rfl⟩:=two U;grind[V0]
 .obtain⟨a,rfl⟩:=one U;grind[JQ]
 .obtain⟨a,rfl⟩:=one U;grind[JQ]
 .obtain⟨a,rfl⟩:=one U;grind[aO9]
 .obtain⟨a,rfl⟩:=one U;grind[aO8]
 all_goals grind[aO7,as2]
theorem ZI{a b:bz}(f:op=13\/op=14\/op=15\/op=16) (ha:Ga a) (hb:Ga b):DA (Qb ⟨op,N⟩ [a,b] env):=by
 have h1:=ha.range;have h2:=hb.range;have c:ea ⟨op,N⟩ [a,b] env=_:=(MD U).trans (av3 f);have d:qa ⟨op,N⟩ [a,b] env=Ub ⟨op,N⟩ a b:=by
  rw[Yx U];rcases f with rfl|rfl|rfl|rfl<;>simp only[Ma,t?,E?,w3,s7,t!,a!,oj]
 rcases f with rfl|rfl|rfl|rfl
 .simp only[t?,G2,false_and,or_false]at c;have hq:Ub ⟨13,N⟩ a b=M (⟨a.a,0,(if(a.N*b.N).natAbs<=1000000000000000 then(a.N*b.N,(0:Int))else(0,3)).1⟩,(if(a.N*b.N).natAbs<=1000000000000000 then(a.N*b.N,(0:Int))else(0,3)).2):=by
   simp_all[Ub,yR]
  grind[DA.ite]
 .simp only[t?,G2,false_and,or_false,false_or]at c;by_cases hc:b.a=4/\(a.a=3\/a.a=4)
  .rw[s6 hc]at c;rcases hc with⟨c1,c2|c2⟩
   .refine rn (v:=⟨a.a,0,(mdS a.N b.N 1000000 N).1⟩) (e:=(mdS a.N b.N 1000000 N).2) c (d.trans ?_)
    simp_all[Ub,xI]
   .refine rn (v:=⟨a.a,0,(VV a.N b.N N).1⟩) (e:=(VV a.N b.N N).2) c (d.trans ?_)
    simp_all[Ub,sO]
  grind[Yy]
 .simp only[t?,G2,false_and,or_false,false_or]at c;by_cases hc:(b.a=2/\(a.a=2\/a.a=3))\/(a.a=3/\b.a=3)
  .rw[s6 hc]at c;rcases hc with⟨c1,c2⟩|⟨c1,c2⟩
   .refine rn (v:=⟨a.a,0,(OQ a.N b.N N).1⟩) (e:=(OQ a.N b.N N).2) c (d.trans ?_)
    simp_all[Ub,Ah]
   .refine rn (v:=⟨4,0,(frS a.N b.N N).1⟩) (e:=(frS a.N b.N N).2) c (d.trans ?_)
    simp_all[Ub,tC]
  grind[Yy]
 .simp only[t?,G2,false_and,or_false,false_or]at c;refine DA.ite (v:=⟨a.a,0,(rtS a.N b.N N).1⟩) (e:=(rtS a.N b.N N).2) c λhc=>d.trans ?_
  simp_all[Ub,ED]
theorem J8(hop:36<=op/\op<=39) (t:ej):Oc op t=M (s5 (t.g=0/\((op=36/\(t.a=2\/t.a=3))\/(op=39/\2<=t.a/\t.a<=5)\/(op≠36/\op≠39/\t.a=1)))):=by
 unfold Oc;simp only[fR,wc];by_cases hE:t.g=0
 case neg=>grind
 have hk:(2<=t.a/\t.a<=5)↔((2<=t.a/\t.a<=4)\/t.a=5):=U
 have:op=36\/op=37\/op=38\/op=39:=U
 rcases this with rfl|rfl|rfl|rfl
 all_goals grind
theorem G3{σ β ρ:Type}{s:σ->Option (Ex σ β ρ)}(I:σ->Prop) (a:σ->Nat) (QB:β->Prop) (QR:ρ->Prop)
 (h:∀x,I x->(∃d,s x=M (.go d)/\I d/\a d<a x)\/(∃b,s x=M (.brk b)/\QB b)\/∃b,s x=M (.ret b)/\QR b)
 {x:σ} (hi:I x):(∃b,ca s x=M (.inl b)/\QB b)\/∃b,ca s x=M (.inr b)/\QR b:=by
 have:=oI (s1:=s) (s2:=s) (λx y=>x=y/\I x) a (λb c=>b=c/\QB b) (λb c=>b=c/\QR b) (by
  grind) (a x) x x (Nat.le_refl _) ⟨rfl,hi⟩
 grind
theorem aa8(he:w? env) (g:36<=op/\op<=39) (hf:Kw ⟨op,N⟩ env=a35):DA (Qb ⟨op,N⟩ [] env):=by
 have a:0<=N/\N<(a00 env.au:Int):=by
  grind[Kw]
 have hi:c! env.au N=M (env.au[N.toNat]' U):=Nh a.1 a.2;generalize env.au[N.toNat]' U=t at hi;have hal:ea ⟨op,N⟩ [] env=Oc op t:=by
  unfold ea
  grind
 have hcm:qa ⟨op,N⟩ [] env=Pf ⟨op,N⟩ env:=by
  unfold qa;dsimp only;have w:(op==5)=a36:=o0
  rw[p5,p5,p5,p5,w,a!,p5 l5,p5,p5,p5,p5,p5,I8,s6 g,J rfl,oj]
 have hov:∃p,Pf ⟨op,N⟩ env=M p:=by
  unfold Pf;dsimp only;rw[hi,a!];obtain⟨j,hj⟩:∃j,(if op=37 then M (1:Int)else M 0)=M j:=by split<;>exact⟨_,rfl⟩
  obtain⟨b,hb⟩:∃b,(if op=39 then M ((a00 env.s:Int)==0)else M a36)=M b:=by split<;>exact⟨_,rfl⟩
  rw[hj,a!,hb,a!]
  cases b with
  |true=>simp
  |false=>
   rw[p5 l5];have f:=G3 (s:=vd ⟨op,N⟩ env t) (λx=>0<=x.2.2.2/\x.2.2.2<=(a00 env.s:Int)) (λx=>(a00 env.s-x.2.2.2).toNat) (λ_=>True) (λ_=>True) (by
    rintro⟨C,D,k,d⟩ ⟨g1,g2⟩;dsimp only at g1 g2;unfold vd;dsimp only;by_cases c:d<(a00 env.s:Int)
    case neg=>rw[p5 c];simp
    rw[J c,Nh g1 c];simp only[a!];generalize env.s[d.toNat]' U=l;by_cases hN:(a00 l:Int)<=N
    .rw[p5];simp
    rw[J hN,Nh a.1 U];simp only[a!,Pv,pb];generalize l[N.toNat]' U=v;have hgo:∀m n o:Int,∃e,(M (i! (m,n,o,aa .i64 (d+1))):Option (Ex (Int×Int×Int×Int) (Int×Int×Int) (bz×Int)))=M (.go e)/\(0<=e.2.2.2/\e.2.2.2<=(a00 env.s:Int))/\(a00 env.s-e.2.2.2).toNat<(a00 env.s-d).toNat:=by
     intro m n o;have:=he.mem;rw[g! U U]
     grind
    by_cases hv0:v.a=0
    .simp_all
    have h:(v.a==0)=a36:=by simp[hv0]
    simp only[h,t!,s7];by_cases y:(Nz v&&(s5 (v.a=t.a)&&s5 (v.g=t.g)))=a35
    case neg=>
     simp_all
    rw[y];simp only[O!,s7];by_cases i:op=36
    .simp only[i,w3];cases Nz ⟨C,D,aa .i64 (k+v.N)⟩
     all_goals simp_all
    simp only[i,s7];by_cases z:op=37
    .simp_all
    simp only[z,s7];by_cases A:op=38
    .simp_all
    have B:op=39:=U
    simp only[A,B,s7,w3];obtain⟨b,hb⟩:∃b,(if¬d=0 then M (s5 (k<v.N))else M a35)=M b:=o0
    rw[hb,a!];cases b
    all_goals simp_all) (x:=(t.a,t.g,j,0)) ⟨l5,l5⟩
   rcases f with⟨⟨q,r,b3⟩,u,-⟩|⟨⟨q,r⟩,u,-⟩
   all_goals simp_all
 grind[J8,DA.ite]
theorem aT5{n:fr}(he:w? env) (hN:Zb n) (hl:args.length<=3):DA (og n args env):=by
 refine rU hl λd h2 h3 h4 h5=>?_;obtain⟨op,N⟩:=n;dsimp only at d h2;have two:(11<=op/\op<=24)\/(27<=op/\op<=30)->∃a b,args=[a,b]:=by
  intro h;have:args.length=2:=by grind[Fb]
  match args,this with
  |[a,b],_=>simp
 have one:op=10\/op=25\/(31<=op/\op<=34)->∃a,args=[a]:=by
  intro h;have:args.length=1:=by grind[Fb]
  match args,this with
  |[a],_=>simp
 have zero:op<=9\/35<=op->args=[]:=by
  grind[Fb,jad]
 rcases rC d with h|h|h|h|h|h|h|h|h|h|h|h|h|h|h|h|h|h|h|h|h|h|h|h|h|h|h|h|h|h|h|h|h|h|h|h|h|h|h<;>subst h
 .grind[KC]
 .grind[KC]
 .grind[KC]
 .grind[KC]
 .grind[KC]
 .grind[aA5]
 .grind[aA4]
 .grind[aA3]
 .grind[aA2]
 .obtain⟨a,rfl⟩:=one U;grind[ad7]
 .obtain⟨a,b,rfl⟩:=two U;grind[RW]
 .obtain⟨a,b,rfl⟩:=two U;grind[RW]
 .obtain⟨a,b,rfl⟩:=two U;grind[ZI]
 .obtain⟨a,b,rfl⟩:=two U;grind[ZI]
 .obtain⟨a,b,rfl⟩:=two U;grind[ZI]
 .obtain⟨a,b,rfl⟩:=two U;grind[ZI]
 .obtain⟨a,b,rfl⟩:=two U;grind[SW]
 .obtain⟨a,b,rfl⟩:=two U;grind[SW]
 .obtain⟨a,b,rfl⟩:=two U;grind[TW]
 .obtain⟨a,b,rfl⟩:=two U;grind[TW]
 .obtain⟨a,b,rfl⟩:=two U;grind[UW]
 .obtain⟨a,b,rfl⟩:=two U;grind[UW]
 .obtain⟨a,b,rfl⟩:=two U;grind[VW]
 .obtain⟨a,b,rfl⟩:=two U;grind[VW]
 .obtain⟨a,rfl⟩:=one U;grind[ad6]
 .have:args.length=3:=by grind[Fb]
  match args,this with
  |[a,b,c],_=>grind[ad5]
 .obtain⟨a,b,rfl⟩:=two U;grind[ad4]
 .obtain⟨a,b,rfl⟩:=two U;grind[ad3]
 .obtain⟨a,b,rfl⟩:=two U;grind[WW]
 .obtain⟨a,b,rfl⟩:=two U;grind[WW]
 .obtain⟨a,rfl⟩:=one U;grind[oP]
 .obtain⟨a,rfl⟩:=one U;grind[oP]
 .obtain⟨a,rfl⟩:=one U;grind[ad2]
 .obtain⟨a,rfl⟩:=one U;grind[ad1]
 all_goals grind[ad0,aa8]
theorem ak3(h:X? e) (hN:∀n∈e,Zb n) (he:w? env):∀i,i<a00 e->Z? e env i:=
 bf7 h λi hi _=>aT5 he (al4 hN hi) (by grind[oJ,OG])
theorem ZZ(hN:∀n∈e,Zb n) (he:w? env) (h:X? e):Jl e env=M (iM e env (a00 e-1))/\((iM e env (a00 e-1)).2=0->Ga (iM e env (a00 e-1)).1):=
 bu0 h (ak3 h hN he _ (by have:=h.pos;omega))
theorem ax1(hN:∀n∈e,Zb n) (he:w? env):DA (Jl e env):=by
 by_cases a:(Lp e).2.2=0
 .obtain⟨b,h2⟩:=ZZ hN he (yK a);exact⟨_,b,h2⟩
 .unfold Jl av;rw[Zs];simp only[a!];rw[J a];exact⟨_,rfl,λh=>absurd h a⟩
theorem ak7(h:X? e) (hN:∀n∈e,Zb n) (he:w? env):∀i,i<a00 e->Λ e env i:=
 aH4 h λi hi _=>LX he (al4 hN hi) (by grind[PD,OG])
theorem xQ(hN:∀n∈e,Zb n) (he:w? env):∃p,Jl e env=M p/\wx e env=M p/\(p.2=0->Ga p.1):=by
 have hf:1000000<=cg:=by grind[cg]
 unfold Jl wx av vz;rw[Zs,ew];simp only[a!];by_cases a:(Lp e).2.2=0
 .have h:=yK a;have hp:=h.pos;have hle:=h.le;rw[p5 (v!.2 a),p5 (v!.2 a),sH h];have e1:aa .i64 ((a00 e:Int)-1)=((a00 e-1:Nat):Int):=by grind[g!]
  have hb:=ak7 h hN he (a00 e-1) U;unfold rj cB;rw[e1,hb.p _ U,hb.r _ U];exact⟨_,rfl,rfl,hb.ok⟩
 simp_all
theorem dB{l:List Int}(hl:l.length<=1073741824) (x:Int):yv l x=M (l.contains x):=by
 have h:ca (qw l x) 0=M (Ib () (ff (λi=>if(l[i]?.any λy=>y==x)=a35 then M a35 else q6) l.length)):=
  xb (λi=>(i:Int)) _ l.length () (λi hi _=>by
   unfold qw;rw[J,wa hi,n! hi]
   grind[UD,pa]) (λ_=>by grind[qw])
 unfold yv;have ha:=Rv (l:=l) (q:=λy=>y==x) (g:=λ_=>a35);rw[h];have e:l.contains x=l.any λy=>y==x:=by
  grind
 rw[e]
 cases hf:ff (λi=>if(l[i]?.any λy=>y==x)=a35 then M a35 else q6) l.length with
 |none=>
  have:l.any (λy=>y==x)=a36:=by
   simp_all
  rw[this];rfl
 |some v=>
  have:l.any (λy=>y==x)=a35:=by
   simp_all
  obtain⟨k,_,h2,_⟩:=Oa.1 hf;split at h2
  .injection h2 with h2;subst h2;rw[this];rfl
  simp_all
theorem EG{s:ek}(a:K! s) (ho:out.length<=1048576) (d:Int):By s d out=M ((Jw s d).all λe=>out.contains e):=by
 unfold By;rw[kA a,a!];have hd:=(qE s d).len;have hdl:(Jw s d).length<=1048576:=by have:=a.defs;omega
 have h:ca (Cs out (Jw s d)) 0=M (Ib () (ff (λi=>if((Jw s d)[i]?.any λy=>!out.contains y)=a35 then M a36 else q6) (Jw s d).length)):=
  xb (λi=>(i:Int)) _ (Jw s d).length () (λi hi _=>by
   unfold Cs;rw[J,wa hi,n! hi]
   grind[UD,dB,pa]) (λ_=>by grind[Cs])
 rw[h];have ha:=Rv (l:=Jw s d) (q:=λy=>!out.contains y) (g:=λ_=>a36);have e:((Jw s d).all λe=>out.contains e) = !(Jw s d).any λy=>!out.contains y:=by
  grind
 rw[e]
 cases hf:ff (λi=>if((Jw s d)[i]?.any λy=>!out.contains y)=a35 then M a36 else q6) (Jw s d).length with
 |none=>
  have:(Jw s d).any (λy=>!out.contains y)=a36:=by
   simp_all
  rw[this];rfl
 |some v=>
  have:(Jw s d).any (λy=>!out.contains y)=a35:=by
   simp_all
  obtain⟨k,_,h2,_⟩:=Oa.1 hf;split at h2
  .injection h2 with h2;subst h2;rw[this];rfl
  simp_all
theorem av5{s:ek}{d:Nat}(hd:d<a00 s.d):∃l,(Fl s)[d]?=M l/\∀x,x∈l↔rL s d x:=by
 have hl:=Mn s;refine⟨(Fl s)[d]' U,n! U,λx=>?_⟩
 grind[IE]
theorem ah1{s:ek}{d:Nat}(hd:d<a00 s.d):dG (Fl s) out d=(!out.contains (d:Int)&&(Jw s d).all λe=>out.contains e):=by
 obtain⟨l,a,h2⟩:=av5 hd;unfold dG;rw[List.getD_eq_getElem?_getD,a];congr 1;rw[Hac,R',R']
 grind[KE]
theorem bg6{s:ek}(e:K! s) (ho:out.length<=1048576):ca (td s out) 0=M (.inl (match (o? (Fl s).length).find? (dG (Fl s) out)with|some d=>(d:Int)|none=>(a00 s.d:Int))):=by
 have hdl:=e.defs;have hal:=Mn s;obtain⟨N,hN,c,b,hv⟩:∃N:Nat,N<=a00 s.d/\(∀j,j<N->dG (Fl s) out j=a36)/\(N<a00 s.d->dG (Fl s) out N=a35)/\(match (o? (Fl s).length).find? (dG (Fl s) out)with|some d=>(d:Int)|none=>(a00 s.d:Int))=(N:Int):=by
  cases hf:(o? (Fl s).length).find? (dG (Fl s) out)with
  |none=>
   grind
  |some d=>
   have a:=List.find?_some hf;have h2:=dad hf;rw[uac]at h2;refine⟨d,U,λj hj=>?_,λ_=>a,rfl⟩
   simp_all
 rw[hv];refine Uc (step:=td s out) (λi=>(i:Int)) N _ (λi hi=>?_) ?_ rfl
 .unfold td;have a:=c i hi;rw[ah1 U]at a;rw[J,dB (P' ho o4),a!,EG e ho];cases hc:out.contains (i:Int)
  .rw[hc]at a;simp only[iac,Bool.true_and]at a;rw[a];simp only[w3,a!,iac]
   grind[pa]
  .simp only[O!,s7,a!,w3]
   grind[pa]
 .unfold td;rcases Nat.lt_or_ge N s.d.length with h|h
  .have a:=b h;rw[ah1 h]at a;rw[J,dB (P' ho o4),a!,EG e ho]
   simp_all
  grind
theorem uR{s:ek}(c:K! s):∀(k:Nat) (out:List Int),a00 out+k=a00 s.d->(ca (ud s) out).bind (λy=>match y with|.inr v=>M v|.inl a=>M (a,0))=M (Nx (Fl s) k out)
 |0,out,h=>by
  rw[Ob (b:=out) (by simp_all[ud])];rfl
 |k+1,out,h=>by
  have hdl:=c.defs;have hn:=bg6 c (out:=out) U;have hal:=Mn s;unfold Nx
  cases hf:(o? (Fl s).length).find? (dG (Fl s) out)with
  |none=>
   rw[hf]at hn;dsimp only at hn;rw[ct (v:=([],9)) (by unfold ud;grind)];rfl
  |some d=>
   rw[hf]at hn;dsimp only at hn;have h2:=dad hf;rw[uac]at h2;rw[Ie (s':=out++[(d:Int)]) (by unfold ud;rw[J,hn,a!];dsimp only;rw[p5,me o0];rfl)];exact uR c k (out++[(d:Int)]) o0
theorem BC{s:ek}(hs:K! s):gh s=M (sx (Fl s)):=by
 grind[gh,sx,Mn,uR]
theorem gp{s:ek}(hs:K! s):Lf s=M (sx (Fl s)):=by
 grind[Lf,Ts]
theorem fL{g:List (List Int)}:∀(k:Nat) (out:List Int),(∀x∈out,0<=x/\x<(a00 g:Int))->(a00 out+k<=a00 g)->(∀x∈(Nx g k out).1,0<=x/\x<(a00 g:Int))/\(Nx g k out).1.length<=a00 g
 |0,out,h,hl=>⟨h,hl⟩
 |k+1,out,h,hl=>by
  unfold Nx;split
  .rename_i d hf;have h2:=dad hf;rw[uac]at h2;refine fL k _ (λx hx=>?_) o0
   grind
  simp
theorem kO(g:List (List Int)):(∀x∈(sx g).1,0<=x/\x<(a00 g:Int))/\(sx g).1.length<=a00 g:=fL g.length [] (λx hx=>by simp at hx) l5
def aR(n:Nat) (x:Int):Prop:=x = -1\/x = -2\/(0<=x/\x<(n:Int))
theorem ak1{t1:List Int}{out:Int->Int}{l:List Int}{n:Nat}(h:∀x∈l,aR n (out x)):aR n (XT t1 out l):=by
 unfold XT;have hs:=PB (t1:=t1) (out:=out) (l:=l);split
 .exact .inl rfl
 .simp_all
 .exact .inr (.inl rfl)
theorem aU3{t0 t1:List Int}{t2:List Bool}:∀(k:Nat) (i:Int),0<=i->i<(a00 t0:Int)->aR t0.length (oc t0 t1 t2 k i)
 |0,i,_,_=>.inl rfl
 |k+1,i,a,b=>by
  unfold oc;split
  .exact .inr (.inr ⟨a,b⟩)
  .exact ak1 λx hx=>by
    obtain⟨j,rfl,hj,-⟩:=MH hx;exact aU3 k _ U U
theorem B5(t0 t1:List Int) (t2:List Bool):aR t0.length (BT t0 t1 t2):=by
 unfold BT;split
 .exact ak1 λx hx=>by
   obtain⟨j,rfl,hj,-⟩:=MH hx;exact aU3 t0.length _ U U
 .exact .inl rfl
structure ScE (s:ek):Prop where
 ok:K! s
 n:∀r∈s.f,(∀n∈r.ag,Zb n)/\(∀n∈r.Value,Zb n)
variable {s:ek}
def YT:ot:=⟨0,0,0,0⟩
theorem FU(A:ScE s) (he:w? env) (m d:Int):∃p,tf s env m d=M p/\tw s env m d=M p/\(p.2.Code=0->aR s.f.length p.1):=by
 have hr:=A.ok.rules;unfold tf tw;rw[Lu hr,JO hr,a!,a!];obtain⟨hl1,o,g⟩:=Bw (rules:=s.f) (q:=CH d env.z) s.f.length;have hm:=HI (rules:=s.f) (q:=CH d env.z) s.f.length;unfold tP;generalize (Ef s.f (CH d env.z) s.f.length).2.1=par at g⊢;generalize (Ef s.f (CH d env.z) s.f.length).1=L at o g hm⊢;generalize L.map (lD s)=k;dsimp only;rw[DB U U,a!];have t:=oI (s1:=zh s env m d (L,par,k)) (s2:=Gu s env m d (L,par,k))
  (λx y=>∃i:Nat,i<=a00 L/\x.2=(i:Int)/\y.2=(i:Int)/\y.1.length=i/\x.1=y.1++l! (a00 L-i) a36) (λx=>(a00 L-x.2).toNat)
  (λx y=>x=y) (λx y=>x=y/\x.2.Code≠0) (by
   rintro⟨a,a2⟩ ⟨b,b2⟩ ⟨i,i1,B,C,E,D⟩;dsimp only at B C E D;subst B;subst C;subst D;unfold zh Gu;dsimp only;by_cases hi:i<a00 L
   case neg=>
    rw[p5,p5]
    simp_all
   have hx:=hm _ (y! hi);rw[J,J,wa hi];simp only[a!];generalize L[i]=x at hx⊢;rw[Nh hx.1 hx.2.1];simp only[a!];have e:s.f[x.toNat]' U∈s.f:=y! _;generalize s.f[x.toNat]' U=r at e;have hN:=(A.n r e).1;have step:∀v:Bool,(b? (α:=((List Bool)⊕(Ex (List Bool×Int) (List Bool) (Int×ot)))) ((c! (b++l! (a00 L-i) a36) (i:Int)).bind λx13=>(put (b++l! (a00 L-i) a36) (i:Int) v).bind λw=>M (Sum.inl w)) λz=>match z with|.inr v=>M v|.inl f=>M (i! (f,(aa .i64 ((i:Int)+1)))))=M (.go ((b++[v])++l! (a00 L-(i+1)) a36,((i+1:Nat):Int))):=by
    intro v;rw[wa l4,a!,WD l4,a!,a!];dsimp only;rw[pa U,Fac _ _ U,show i-b.length=0 by omega,show L.length-i=(a00 L-(i+1))+1 by omega,Ψ,Xab];simp
   have step2:∀v:Bool,(b? (α:=((List Bool)⊕(Ex (List Bool×Int) (List Bool) (Int×ot)))) ((app 1 b ([v])).bind λu=>M (Sum.inl u)) λz=>match z with|.inr v=>M v|.inl f=>M (i! (f,(aa .i64 ((i:Int)+1)))))=M (.go (b++[v],((i+1:Nat):Int))):=by
    grind[me,pa]
   by_cases j:(a00 r.ag:Int)=0
   .rw[J j,J j];exact .inl ⟨_,_,step a35,step2 a35,⟨i+1,U,rfl,rfl,l4,rfl⟩,U⟩
   .rw[p5 j,p5 j];obtain⟨p,F,G,p3⟩:=xQ hN he;rw[F,G,a!,a!];by_cases hc:p.2=0
    .rw[p5 (v!.2 hc),p5 (v!.2 hc)];exact .inl ⟨_,_,step _,step2 _,⟨i+1,U,rfl,rfl,l4,rfl⟩,U⟩
    simp_all) L.length (l! L.length a36,0) (([]:List Bool),0) U ⟨0,M' _,rfl,rfl,rfl,l5⟩
 rcases t with⟨x,y,g1,g2,rfl⟩|⟨x,y,g1,g2,rfl,g3⟩
 .rw[g1,g2,a!,a!];dsimp only;rw[Cw,GO];simp only[a!];have c:=B5 par k x;generalize BT par k x=v at c;by_cases hv:v<0
  .rw[J hv];refine⟨_,rfl,rfl,λ_=>?_⟩;rcases c with h|h|h
   .exact .inl h
   .exact .inr (.inl h)
   omega
  .rw[p5 hv,Nh U (by rcases c with h|h|h<;>omega),a!];have:=hm _ (y! (l:=L) (n:=v.toNat) (by rcases c with h|h|h<;>omega));exact⟨_,rfl,rfl,λ_=>.inr (.inr ⟨this.1,this.2.1⟩)⟩
 simp_all
def l6(v:bz):Prop:=v=⟨0,0,0⟩\/Ga v
structure P! (n:Nat) (v:List bz) (r:List Int):Prop where
 vl:v.length=n
 rl:r.length=n
 vp:∀x∈v,l6 x
variable {n:Nat}{r:Int}{v:Int->bz×Int}
theorem θ{l:List α}{i:Nat}{x y:α}(h:y∈l.set i x):y=x\/y∈l:=by
 grind
theorem eP(u:ScE s) (he:w? env) (hw:w.length=a00 s.d) (m:Int) :
 (∃v r,Ca s env m w=M ((r,YT),{ env with d:=v })/\Pk s env m w=M (v,r,YT)/\P! s.d.length v r)\/
 ∃e d,e.Code≠0/\Ca s env m w=M (([],e),d)/\Pk s env m w=M ([],[],e):=by
 have hd:=u.ok.defs;unfold Ca Pk;rw[DB U U,DB U U,a!,a!,a!,a!,gp u.ok,BC u.ok,a!,a!];obtain⟨j,t⟩:=kO (Fl s);rw[Mn]at j t;generalize sx (Fl s)=ord at j t⊢;have z:=oI (s1:=Dc s env m w ord) (s2:=Zq s env m w ord)
  (λx y=>x=y/\∃i:Nat,i<=a00 ord.1/\x.2.2=(i:Int)/\P! s.d.length x.1 x.2.1) (λx=>(a00 ord.1-x.2.2).toNat)
  (λx y=>x=y/\P! s.d.length x.1 x.2) (λx y=>∃e d,x=(([],e),d)/\y=([],[],e)/\e.Code≠0) (by
   rintro⟨a,b,c⟩ y ⟨rfl,i,i1,G,A,B,C⟩;dsimp only at G A B C;subst G;unfold Dc Zq;dsimp only;by_cases hi:i<a00 ord.1
   case neg=>
    rw[p5,p5];exact .inr (.inl ⟨_,_,rfl,rfl,rfl,A,B,C⟩)
   have hx:=j _ (y! hi);rw[J,J,wa hi];simp only[a!];generalize ord.1[i]=x at hx⊢;rw[Nh (l:=w) hx.1 U];simp only[a!];by_cases f:w[x.toNat]' U=a36
   .rw[J f,J f];simp only[a!];rw[pa U];exact .inl ⟨_,_,rfl,rfl,⟨rfl,i+1,U,rfl,A,B,C⟩,o0⟩
   rw[p5 f,p5 f];have o:w? (ia.mk env.z env.w a env.s env.au env.Tables):=⟨he.tabs,he.mem⟩;obtain⟨p,H,I,j8⟩:=FU u o m x;unfold Az;rw[H,I];simp only[a!];by_cases hc:p.2.Code=0
   case neg=>
    simp_all
   rw[p5 (v!.2 hc),p5 (v!.2 hc)];by_cases D:p.1 = -1
   .simp_all
   rw[p5 D,p5 D];by_cases h2:p.1 = -2
   .simp_all
   rw[p5 h2,p5 h2];have E:0<=p.1/\p.1<(a00 s.f:Int):=by
    rcases j8 hc with h|h|h
    all_goals omega
   rw[Nh E.1 E.2];simp only[a!];have g:s.f[p.1.toNat]' U∈s.f:=y! _;generalize s.f[p.1.toNat]' U=r at g;obtain⟨q,q1,K,L⟩:=xQ (u.n r g).2 o;rw[q1,K];simp only[a!];by_cases hq:q.2=0
   case neg=>
    simp_all
   rw[p5 (v!.2 hq),p5 (v!.2 hq)];simp only[a!,not_true,s7];obtain⟨k,rfl⟩:=W! hx.1;rw[wa U,a!,WD U,a!,wa U,a!,WD U];simp only[a!];rw[pa U];refine .inl ⟨_,_,rfl,rfl,⟨rfl,i+1,U,rfl,?_,?_,?_⟩,o0⟩
   .grind
   .grind
   .intro y F;rcases θ F with rfl|F
    .exact .inr (L hq)
    simp_all) ord.1.length (l! s.d.length ⟨0,0,0⟩,l! s.d.length 0,0) (l! s.d.length ⟨0,0,0⟩,l! s.d.length 0,0) l5 ⟨rfl,0,M' _,rfl,l5,l5,λx hx=>.inl (rac hx)⟩
 rcases z with⟨x,y,g1,g2,rfl,g3⟩|⟨x,y,g1,g2,e,d,rfl,rfl,g3⟩
 .rw[g1,g2];exact .inl ⟨x.1,x.2,rfl,rfl,g3⟩
 simp_all
theorem as9(u:ScE s) (he:w? env) (m d:Int):∃p,tf s env m d=M p/\(p.2.Code=0->aR s.f.length p.1):=by
 have hr:=u.ok.rules;unfold tf;rw[Lu hr,a!];obtain⟨hl1,f,e⟩:=Bw (rules:=s.f) (q:=CH d env.z) s.f.length;have hm:=HI (rules:=s.f) (q:=CH d env.z) s.f.length;unfold tP;generalize (Ef s.f (CH d env.z) s.f.length).2.1=par at e⊢;generalize (Ef s.f (CH d env.z) s.f.length).1=L at f e hm⊢;generalize L.map (lD s)=k;dsimp only;rw[DB U U,a!];have g:=G3 (s:=zh s env m d (L,par,k))
  (λx=>∃i:Nat,i<=a00 L/\x.2=(i:Int)/\x.1.length=a00 L) (λx=>(a00 L-x.2).toNat)
  (λx=>x.length=a00 L) (λx=>x.2.Code≠0) (by
   rintro⟨a,a2⟩ ⟨i,i1,w,y⟩;dsimp only at w y;subst w;unfold zh;dsimp only;by_cases hi:i<a00 L
   case neg=>
    grind
   have hx:=hm _ (y! hi);rw[J,wa hi];simp only[a!];generalize L[i]=x at hx⊢;rw[Nh hx.1 hx.2.1];simp only[a!];have c:s.f[x.toNat]' U∈s.f:=y! _;generalize s.f[x.toNat]' U=r at c;have hN:=(u.n r c).1;have step:∀v:Bool,(b? (α:=((List Bool)⊕(Ex (List Bool×Int) (List Bool) (Int×ot)))) ((c! a (i:Int)).bind λx13=>(put a (i:Int) v).bind λo=>M (Sum.inl o)) λz=>match z with|.inr v=>M v|.inl j=>M (i! (j,(aa .i64 ((i:Int)+1)))))=M (.go (a.set i v,((i+1:Nat):Int))):=by
    intro v;rw[wa U,a!,WD U,a!,a!]
    grind[pa]
   by_cases t:(a00 r.ag:Int)=0
   .rw[J t];exact .inl ⟨_,step a35,⟨i+1,U,rfl,l4⟩,U⟩
   .rw[p5 t];obtain⟨p,A,p3⟩:=ax1 hN he;rw[A,a!];by_cases hc:p.2=0
    .rw[p5 (v!.2 hc)];exact .inl ⟨_,step _,⟨i+1,U,rfl,l4⟩,U⟩
    simp_all) (x:=(l! L.length a36,0)) ⟨0,M' _,rfl,l5⟩
 rcases g with⟨x,g1,g2⟩|⟨x,g1,g3⟩
 .rw[g1,a!];dsimp only;rw[Cw];simp only[a!];have b:=B5 par k x;generalize BT par k x=v at b;by_cases hv:v<0
  .rw[J hv];refine⟨_,rfl,λ_=>?_⟩;rcases b with h|h|h
   .exact .inl h
   .exact .inr (.inl h)
   omega
  .rw[p5 hv,Nh U (by rcases b with h|h|h<;>omega),a!];have:=hm _ (y! (l:=L) (n:=v.toNat) (by rcases b with h|h|h<;>omega));exact⟨_,rfl,λ_=>.inr (.inr ⟨this.1,this.2.1⟩)⟩
 simp_all
theorem w5(u:ScE s) (he:w? env) (hw:w.length=a00 s.d) (m:Int) :
 (∃v r,Ca s env m w=M ((r,YT),{ env with d:=v })/\P! s.d.length v r)\/
 ∃e d,e.Code≠0/\Ca s env m w=M (([],e),d):=by
 have hd:=u.ok.defs;unfold Ca;rw[DB U U,DB U U,a!,a!,gp u.ok,a!];obtain⟨g,o⟩:=kO (Fl s);rw[Mn]at g o;generalize sx (Fl s)=ord at g o⊢;have z:=G3 (s:=Dc s env m w ord)
  (λx=>∃i:Nat,i<=a00 ord.1/\x.2.2=(i:Int)/\P! s.d.length x.1 x.2.1) (λx=>(a00 ord.1-x.2.2).toNat)
  (λx=>P! s.d.length x.1 x.2) (λx=>∃e d,x=(([],e),d)/\e.Code≠0) (by
   rintro⟨a,b,c⟩ ⟨i,i1,F,A,B,C⟩;dsimp only at F A B C;subst F;unfold Dc;dsimp only;by_cases hi:i<a00 ord.1
   case neg=>
    rw[p5];exact .inr (.inl ⟨_,rfl,A,B,C⟩)
   have hx:=g _ (y! hi);rw[J,wa hi];simp only[a!];generalize ord.1[i]=x at hx⊢;rw[Nh (l:=w) hx.1 U];simp only[a!];by_cases t:w[x.toNat]' U=a36
   .rw[J t];simp only[a!];rw[pa U];exact .inl ⟨_,rfl,⟨i+1,U,rfl,A,B,C⟩,o0⟩
   rw[p5 t];have j:w? (ia.mk env.z env.w a env.s env.au env.Tables):=⟨he.tabs,he.mem⟩;obtain⟨p,H,I⟩:=as9 u j m x;rw[H];simp only[a!];by_cases hc:p.2.Code=0
   case neg=>
    simp_all
   rw[p5 (v!.2 hc)];by_cases G:p.1 = -1
   .simp_all
   rw[p5 G];by_cases h2:p.1 = -2
   .simp_all
   rw[p5 h2];have D:0<=p.1/\p.1<(a00 s.f:Int):=by
    rcases I hc with h|h|h
    all_goals omega
   rw[Nh D.1 D.2];simp only[a!];have f:s.f[p.1.toNat]' U∈s.f:=y! _;generalize s.f[p.1.toNat]' U=r at f;obtain⟨q,q1,j8⟩:=ax1 (u.n r f).2 j;rw[q1];simp only[a!];by_cases hq:q.2=0
   case neg=>
    simp_all
   rw[p5 (v!.2 hq)];obtain⟨k,rfl⟩:=W! hx.1;rw[wa U,a!,WD U,a!,wa U,a!,WD U];simp only[a!];rw[pa U];refine .inl ⟨_,rfl,⟨i+1,U,rfl,?_,?_,?_⟩,o0⟩
   .grind
   .grind
   .intro y E;rcases θ E with rfl|E
    .exact .inr (j8 hq)
    simp_all) (x:=(l! s.d.length ⟨0,0,0⟩,l! s.d.length 0,0)) ⟨0,M' _,rfl,l5,l5,λx hx=>.inl (rac hx)⟩
 rcases z with⟨x,g1,g3⟩|⟨x,g1,e,d,rfl,g3⟩
 .rw[g1];exact .inl ⟨x.1,x.2,rfl,g3⟩
 simp_all
theorem EB(a:0<=x) (h1:x<(n:Int)):put ((o? n).map f) x a35=M ((o? n).map λk=>f k || s5 (x=(k:Int))):=by
 obtain⟨j,rfl⟩:=W! a;rw[WD l4];congr 1;apply Qab
 all_goals grind
theorem Ox{f:Nat->α}(h0:0<=x) (h1:x<(n:Int)):c! ((o? n).map f) x=M (f x.toNat):=by
 grind[Nh]
theorem mR{l:List Int}(hl:l.length<=1048576) (hm:∀x∈l,0<=x/\x<(n:Int)) (f:Nat->Bool) 
 (c:∀a b,step (a,b)=if b<(a00 l:Int)then(c! l b).bind λx=>(c! a x).bind λ_=>(put a x a35).bind λq=>M (.go (q,aa .i64 (b+1)))else M (.brk a)) :
 ca step ((o? n).map f,0)=M (.inl ((o? n).map λk=>f k || l.contains (k:Int))):=by
 refine Uc (λi=>((o? n).map (λk=>f k || (l.take i).contains (k:Int)),(i:Int))) l.length _ (λi hi=>?_) ?_ l5
 .have hx:=hm _ (y! hi);rw[c,J,wa hi,a!,Ox hx.1 hx.2,a!,EB hx.1 hx.2,a!,pa U,O',n! hi]
  grind
 simp_all
theorem FC(n:Nat):l! n a36=(o? n).map λ_=>a36:=by
 apply Qab<;>simp
def wB(s:ek) (d x:Int):Bool:=s5 (d=x) || (LF s d s.d.length).contains x
theorem YZ:wB s d x=a35↔d=x\/Way s d x:=by
 simp_all[wB,ZA]
theorem OF(h:Way s d x):0<=x/\x<(a00 s.d:Int):=by
 cases h with
 |one h=>exact h.2.1
 |step _ h=>exact h.2.1
def FD(r:ke):List Int:=UC ky r.ag++UC ky r.Value
def IA(s:ek) (d:Int):List Int:=Vd ((s.f.filter λ(r:ke)=>wB s d r.u).flatMap FD)
theorem HN{l:List ke}(a:∀r∈l,a00 r.ag<=1048576/\r.Value.length<=1048576) {p:ke->Bool}:((l.filter p).flatMap FD).length<=2097152*a00 l:=by
 induction l with
 |nil=>simp
 |cons r l b=>
  have:=b λx hx=>a x o0
  grind[FD,Us]
theorem PA(c:K! s) (hd:0<=d/\d<(a00 s.d:Int)):aj s d=M (IA s d):=by
 have h1:=c.defs;have h2:=c.rules;obtain⟨l,hl,j,f⟩:=Vl c d;unfold Xc at hl;rw[J,a!,p5 l4]at hl;unfold aj;rw[J,a!,p5 l4,DB U U,a!,FC,Ox hd.1 hd.2,a!,EB hd.1 hd.2,a!]
 cases ha:Yc s with
 |none=>simp_all
 |some g=>
  rw[ha,a!]at hl;rw[a!]
  cases hr:Wl g d with
  |none=>simp_all
  |some l'=>
   rw[hr,a!]at hl;obtain rfl:=J! hl;rw[a!,mR j (λx hx=>OF ((f x).1 hx)) _ (λa b=>by grind[Iu]),a!];dsimp only;have hw:((o? s.d.length).map λ(k:Nat)=>(a36 || s5 (d=(k:Int))) || l'.contains (k:Int))=(o? s.d.length).map λ(k:Nat)=>wB s d (k:Int):=by
    apply gac;intro k _;unfold wB;rw[Bool.false_or];congr 1;rw[Hac,Ξ,Ξ,f,ZA]
   rw[hw];have m:ca (Zj s ((o? s.d.length).map λ(k:Nat)=>wB s d (k:Int))) (([]:List Int),0)=M (.inl ((s.f.filter λ(r:ke)=>wB s d r.u).flatMap FD)):=by
    refine Uc (λi=>(((s.f.take i).filter λ(r:ke)=>wB s d r.u).flatMap FD,(i:Int))) s.f.length _ (λi hi=>?_) ?_ rfl
    .have hr:=c.g _ (y! hi);have hb:=HN (l:=s.f.take i) (λr hr=>c.g r (Mab hr)) (p:=λ(r:ke)=>wB s d r.u);have h5:(s.f.take i).length<=1048576:=o0
     have q:=Us (p:=ky) (e:=s.f[i].ag);have t:=Us (p:=ky) (e:=s.f[i].Value);unfold Zj;dsimp only;rw[J,wa hi,a!,pa U,O',n! hi];simp only[pab,ι,pae];generalize s.f[i]=r at hr q t⊢;generalize ((s.f.take i).filter λ(r:ke)=>wB s d r.u).flatMap FD=acc at hb⊢;have hc:(if¬r.u<0 then if¬(a00 s.d:Int)<=r.u then(c! ((o? s.d.length).map λ(k:Nat)=>wB s d (k:Int)) r.u).bind λo=>M (!o)else M a35 else M a35)=M (!wB s d r.u):=by
      by_cases g1:0<=r.u
      .by_cases g2:r.u<(a00 s.d:Int)
       .rw[J,J,Ox g1 g2,a!]
        grind
       .rw[J,p5];have:wB s d r.u=a36:=by
         rw[←Kac,YZ];rintro(h|h)
         .omega
         .have:=OF h;omega
        simp_all
      .rw[p5];have:wB s d r.u=a36:=by
        rw[←Kac,YZ];rintro(h|h)
        .omega
        .have:=OF h;omega
       simp_all
     rw[hc,a!];cases n:wB s d r.u
     .simp[n]
     .rw[p5 l5,Vq U,a!,Vq U,a!]
      grind[Ko,FD,me]
    simp_all[Zj]
   rw[m,a!];dsimp only;have hb:=HN (l:=s.f) c.g (p:=λ(r:ke)=>wB s d r.u);rw[XB U];rfl
theorem oY(a b:List Int):Vd (a++b)=b.foldl cm (Vd a):=by grind[Vd]
theorem uG{l a:List Int}:(l.foldl cm a).length<=a00 a+a00 l:=by
 induction l generalizing a with
 |nil=>simp
 |cons x l ih=>
  grind[FE]
theorem yV{l a:List Int}(h:a.length+a00 l<=1099511627) {step:List Int×Int->Option (Ex (List Int×Int) (List Int) Unit)}
 (c:∀x b,step (x,b)=if b<(a00 l:Int)then(c! l b).bind λy=>(Ag x y).bind λq=>M (.go (q,aa .i64 (b+1)))else M (.brk x)):ca step (a,0)=M (.inl (l.foldl cm a)):=by
 refine Uc (λi=>((l.take i).foldl cm a,(i:Int))) l.length _ (λi hi=>?_) ?_ rfl
 .have hb:=uG (l:=l.take i) (a:=a);have h2:(l.take i).length<=a00 l:=o0
  rw[c,J,wa hi,a!,sw U,a!,pa U,O',n! hi]
  grind
 simp_all
theorem lH(g:K! s) (hfew:s.f.length<=64) (j:∀r∈s.f,a00 r.ag<=1048576/\r.Value.length<=1048576) (hd:0<=d/\d<(a00 s.d:Int)):Co s d=M (IA s d):=by
 have h1:=g.defs;have h2:=g.rules;have htl:=(nB s d s.d.length).len;unfold Co;rw[kD,a!,p5 l4,Ep g,a!,sw U,a!];have c:∀x,yv (cm (LF s d s.d.length) d) x=M (wB s d x):=by
  intro x;have:=FE (l:=LF s d s.d.length) (n:=d);rw[dB U];congr 1;rw[Hac,Ξ,pC,YZ,ZA]
  grind
 have hlp:ca (si s (cm (LF s d s.d.length) d)) (([]:List Int),0)=M (.inl (IA s d)):=by
  refine Uc (λi=>(Vd (((s.f.take i).filter λ(r:ke)=>wB s d r.u).flatMap FD),(i:Int))) s.f.length _ (λi hi=>?_) ?_ rfl
  .have hr:=j _ (y! hi);have hb:=HN (l:=s.f.take i) (λr hr=>j r (Mab hr)) (p:=λ(r:ke)=>wB s d r.u);have h5:(s.f.take i).length<=64:=o0
   have k:=Us (p:=ky) (e:=s.f[i].ag);have m:=Us (p:=ky) (e:=s.f[i].Value);have f:=(Mf (((s.f.take i).filter λ(r:ke)=>wB s d r.u).flatMap FD)).2.1;unfold si;dsimp only;rw[J,wa hi,a!,c,a!,pa U,O',n! hi];simp only[pab,ι,pae];generalize s.f[i]=r at hr k m⊢;generalize ((s.f.take i).filter λ(r:ke)=>wB s d r.u).flatMap FD=acc at hb f⊢;cases h:wB s d r.u
   .simp[h]
   .rw[p5 l5,xp U,a!,xp U,a!];have e1:=yV (l:=(Ko r.ag).2.2) (a:=Vd acc) (by grind[Ko]) (step:=Dm (Ko r.ag)) (λa b=>by grind[Dm]);rw[e1,a!];dsimp only;have h6:=uG (l:=(Ko r.ag).2.2) (a:=Vd acc);have e2:=yV (l:=(Ko r.Value).2.2) (a:=(Ko r.ag).2.2.foldl cm (Vd acc)) (by grind[Ko]) (step:=Bm (Ko r.Value)) (λa b=>by grind[Bm])
    simp_all[FD,Ko,oY]
  .unfold si;dsimp only;rw[p5,η];rfl
 simp_all
theorem rng{c:Int}:(if¬a<b then M (s5 (c<a))else M a35)=M (s5 (a<b) || s5 (c<a)):=by
 grind
theorem vR(a b c:Int):jg a b c=M (s5 (a<b) || s5 (c<a)):=by
 grind[jg]
theorem aQ4(c:tk):Fc c=Zv c:=by
 funext s;unfold Fc Zv;split
 .cases c! c.ar s<;>rfl
 .rfl
theorem bq2(c:tk):Rh c=uv c:=by
 grind[Rh,uv,aQ4]
theorem aY7{c:tk}(h:c.ar.length<=1048576):∃b,Rh c=M b:=by
 have hs:∀i:Nat,i<a00 c.ar->Fc c (i:Int)=M (.ret a36)\/Fc c (i:Int)=M (.go (aa .i64 ((i:Int)+1))):=by
  intro i hi;unfold Fc;rw[J,wa hi,a!];unfold dr;generalize c.ar[i]=x;by_cases h1:0<=x
  .by_cases h2:x<=109572
   .by_cases h3:0<i
    .obtain⟨k,rfl⟩:∃k,i=k+1:=⟨i-1,U⟩
     grind[g!,wa]
    simp_all
   grind
  grind
 classical
 unfold Rh;rw[show(if¬c.a7<0 then if¬126<c.a7 then M (s5 (64<(a00 c.ar:Int)))else M a35 else M a35)=M (s5 (c.a7<0) || (s5 (126<c.a7) || s5 (64<(a00 c.ar:Int)))) by
  grind,a!]
 split
 .simp
 .rcases IH h (λi=>s5 (Fc c (i:Int)=M (.ret a36))) (step:=Fc c) (λi hi=>by
   grind) (by grind[Fc])with g|⟨g,-⟩
  all_goals simp_all
theorem pB{l:cb}(h:(Qo l).Code=0):Qo l=⟨0,0,0,0⟩:=by
 unfold Qo at h⊢;split at h
 .grind
 rename_i c;rw[p5 c];generalize e:ff _ l.r.length=m at h⊢
 cases m with
 |some v=>exact(BF (f:=λi=>match l.r[i]? with|some x=>if(Dh l i x).1=0 then q6 else M (⟨(Dh l i x).1,1,(i:Int),(Dh l i x).2⟩:ll)|none=>q6) wY e h).elim
 |none=>
 dsimp only at h⊢;split at h
 .grind
 rename_i h2;rw[p5 h2];generalize g:ff _ l.Tables.length=n at h⊢
 cases n with
 |some v=>exact(BF (f:=λi=>match l.Tables[i]? with|some x=>if(mr l i x).1=0 then q6 else M (⟨(mr l i x).1,2,(i:Int),(mr l i x).2⟩:ll)|none=>q6) SZ g h).elim
 |none=>
 dsimp only at h⊢;split at h
 .grind
 rename_i d;rw[p5 d];generalize hf:ff _ l.e.length=o at h⊢
 cases o with
 |none=>rfl
 |some v=>
  rw[Τ]at h;obtain⟨k,j,a,-⟩:=Oa.1 hf;rw[n! j]at a;dsimp only at a;split at a
  .grind
  .injection a with a;subst a;rename_i b;exact(b h).elim
theorem NU{l:cb}(a:D? l) {i k:Nat}(hi:i<a00 l.e) (hk:k<l.e[i].d.length):la l.e[i].d[k].an l.r=a35:=by
 have h:=a.s i hi;generalize l.e[i]=x at h hk⊢;unfold Wk at h
 repeat' split at h
 all_goals first|(simp at h;done)|skip
 .rename_i v hv;exact(tG QY hv h).elim
 .rename_i v hv;exact(tG vS hv h).elim
 .rename_i v hv;exact(tG vT hv h).elim
 .rename_i hd _ _;have:=Xa.1 hd k hk
  grind[xL,Tz]
theorem X6{l:cb}(h:m? l) {c:ma}(hc:c.av.ar.length<=1048576) (sc:Int):∃n,Ia l sc c=M n/\Vb l sc c=M n:=by
 have key:Ia l sc c=Vb l sc c/\∃n,Vb l sc c=M n:=by
  unfold Ia Vb tu;rw[nk h,CC h];simp only[a!];by_cases hv:(Qo l).Code=0
  .have m:=oF hv;rw[pB hv];simp only[not_true_eq_false,s7,and_self,beq_self_eq_true,O!];obtain⟨b,hb⟩:=aY7 hc;have d:uv c.av=M b:=by grind[bq2]
   by_cases e:sc<0
   .grind
   by_cases h2:(a00 l.e:Int)<=sc
   .grind
   by_cases f:c.u<0
   .grind
   obtain⟨i,rfl⟩:∃i:Nat,sc=(i:Int):=⟨sc.toNat,U⟩;have hi:i<a00 l.e:=U
   rw[J e,J h2,J f,wa hi,a!,a!];by_cases h4:(l.e[i].d.length:Int)<=c.u
   .grind
   obtain⟨k,hk⟩:∃k:Nat,c.u=(k:Int):=⟨c.u.toNat,U⟩;have a:k<l.e[i].d.length:=U
   rw[show s5 ((l.e[i].d.length:Int)<=c.u)=a36 by simp_all];have ht:=NU m hi a;simp only[hk,wa a,a!,t!,s7];generalize l.e[i].d[k].an=t at ht⊢;by_cases g:t.a=3
   .have j:t.g=0:=by
     simp_all[la]
    simp only[g,j,and_self,not_true_eq_false,s7,vR,rng,hb,d,a!]
    grind
   simp_all
  simp_all
 simp_all
theorem JU{l:cb}(h:m? l) {c:ma}(hc:c.av.ar.length<=1048576) (sc:Int):∃n,Ia l sc c=M n:=by
 have key:∃n,Ia l sc c=M n:=by
  unfold Ia;rw[nk h];simp only[a!];by_cases hv:(Qo l).Code=0
  .have s:=oF hv;rw[pB hv];simp only[not_true_eq_false,s7,and_self,beq_self_eq_true,O!];obtain⟨b,hb⟩:=aY7 hc;by_cases d:sc<0
   .simp[d]
   by_cases h2:(a00 l.e:Int)<=sc
   .simp[d,h2]
   by_cases e:c.u<0
   .simp[d,h2,e]
   obtain⟨i,rfl⟩:∃i:Nat,sc=(i:Int):=⟨sc.toNat,U⟩;have hi:i<a00 l.e:=U
   rw[J d,J h2,J e,wa hi,a!,a!];by_cases p:(l.e[i].d.length:Int)<=c.u
   .simp[p]
   obtain⟨k,hk⟩:∃k:Nat,c.u=(k:Int):=⟨c.u.toNat,U⟩;have a:k<l.e[i].d.length:=U
   rw[show s5 ((l.e[i].d.length:Int)<=c.u)=a36 by simp_all];have ht:=NU s hi a;simp only[hk,wa a,a!,t!,s7];generalize l.e[i].d[k].an=t at ht⊢;by_cases q:t.a=3
   .have r:t.g=0:=by
     simp_all[la]
    simp only[q,r,and_self,not_true_eq_false,s7,rng,hb,a!];by_cases g1:c.aw<0
    .simp[g1]
    by_cases g2:5<c.aw
    .simp_all
    rw[J g1,J g2];simp only[g1,g2,D2,Bool.or_self,w3,a!];cases b
    .simp
    simp only[γ,t!,s7];generalize (s5 (c.bb<1) || s5 (28<c.bb))=f;generalize (s5 (c.a9<0) || s5 (1000000<c.a9))=g;generalize (s5 (c.ba<0) || s5 (1000000000000000<c.ba))=j;generalize (s5 (c.ah<0) || s5 (3599<c.ah))=m;generalize (s5 (c.bc<0) || s5 (365<c.bc))=o;cases f<;>cases g<;>cases j<;>cases m<;>cases o<;>simp
   simp_all
  simp_all
 omega
theorem D?.rule{l:cb}(a:D? l) {i k:Nat}(hi:i<a00 l.e) (hk:k<l.e[i].f.length):aF l.e[i] (QI l l.e[i]) k l.e[i].f[k]=0:=by
 have h:=a.s i hi;generalize l.e[i]=x at h hk⊢;unfold Wk at h
 repeat' split at h
 all_goals first|(simp at h;done)|skip
 .rename_i v hv;exact(tG QY hv h).elim
 .rename_i v hv;exact(tG vS hv h).elim
 .rename_i v hv;exact(tG vT hv h).elim
 simp_all[UO,Xa]
theorem D?.few{l:cb}(a:D? l) {i:Nat}(hi:i<a00 l.e):BB l i l.e[i]=a36/\l.e[i].w.length<=12/\l.e[i].d.length<=12:=by
 have h:=a.s i hi
 grind[Wk]
theorem uP{s:om}(h:cJ e s t=0):(oB e s).2.2=0:=by
 grind[cJ]
theorem BW{x:ek}{s:om}{k:Nat}{r:ke}(h:aF x s k r=0):(0<a00 r.ag->(oB r.ag s).2.2=0)/\(oB r.Value s).2.2=0:=by
 unfold aF at h;split at h
 .omega
 split at h
 .omega
 split at h
 .omega
 split at h
 .omega
 split at h
 .omega
 split at h
 .omega
 split at h
 .omega
 split at h
 .omega
 .rename_i h2;refine⟨λhl=>?_,uP h⟩;exact uP (t:=⟨1,0⟩) (Jad λa=>h2 ⟨hl,a⟩)
theorem aD6{ops:List ej}{s:om}(h:36<=op/\op<=39) {p:ej×Int}(hr:Ya ⟨op,N⟩ ops s=M p) (a:p.2=0):0<=N/\N<(a00 s.ay:Int):=by
 rcases Decidable.em (0<=N/\N<(a00 s.ay:Int))with hc|hc
 .omega
 exfalso;have hu:=Ka (op:=op) U;have c:Vc op=a35:=by grind[Vc]
 unfold Ya va Mg xc at hr;simp only[hu,c,Ra,cj,iC]at hr;by_cases d:N<0
 .rcases(by omega:op=36\/op=37\/op=38\/op=39)with h|h|h|h<;>subst h<;>cases b:s.a6<;>simp[b,d]at hr<;>(rw[←hr]at a;simp at a)
 .have e:(a00 s.ay:Int)<=N:=U
  rcases(by omega:op=36\/op=37\/op=38\/op=39)with h|h|h|h<;>subst h<;>cases b:s.a6<;>simp[b,d,e]at hr<;>(rw[←hr]at a;simp at a)
theorem aa2{s:om}(hN:∀n∈e,Zb n) (h:(oB e s).2.2=0):∀n∈e,ky n=a35->0<=n.N/\n.N<(a00 s.ay:Int):=by
 unfold oB at h;split at h
 case isFalse h2=>simp_all
 rename_i c;have hw:=yK c;have hn:ff (nG e s) e.length=q6:=by
  grind[nG,Oa]
 intro n a hm;obtain⟨j,hj,rfl⟩:=H' a;have ht:=Xa.1 hn j hj;obtain⟨-,-,h39⟩:=hw.ar hj;unfold nG at ht;split at ht
 case isFalse=>grind
 rename_i d;have hr:=gO hw hN hj (λi hi=>Xa.1 hn i U);rw[Hn hj];rw[Hn hj]at hm;have b:36<=(pd e j).Op/\(pd e j).Op<=39:=by
  grind[ky]
 have hres:=aD6 (op:=(pd e j).Op) (N:=(pd e j).N) b hr d;omega
theorem dP{l:cb}(h:m? l) {x:ek}(hx:x∈l.e):ScE x:=by
 obtain⟨-,g2,-,-,-,a⟩:=h.s x hx;exact⟨g2,λr hr=>(a r hr).2.2⟩
theorem cA8{e:List na}(hk:t.a=4):-1000000000<=(RT t e).1/\(RT t e).2<=1000000000:=by
 have hb:=il t e;unfold Tc at hb;rw[Ra,a!]at hb
 grind
theorem D?.rowsN{l:cb}(h:D? l):∀t∈l.Tables,a00 t.Rows<=150/\(t.Value.a=4->ν t):=by
 intro t ht;have h64:=h.rows t ht;refine⟨U,λhk=>⟨U,λr hr=>?_⟩⟩;obtain⟨i,hi,rfl⟩:=H' ht;have:=h.t i hi;generalize l.Tables[i]=t at *;unfold mr at this;split at this
 .omega
 split at this
 .omega
 split at this
 case isFalse h2=>omega
 rename_i h2;unfold Tu at h2;rw[p5]at h2;split at h2
 .omega
 have hn:ff (nK t l.r) t.Rows.length=q6:=by
  cases hf:ff (nK t l.r) t.Rows.length with
  |none=>rfl
  |some v=>
   rw[hf]at h2;obtain⟨k,_,h3,_⟩:=Oa.1 hf
   grind[nK]
 obtain⟨k,b,rfl⟩:=H' hr;have c:=Xa.1 hn k b;unfold nK at c;rw[n! b]at c;dsimp only at c;split at c
 .grind
 rename_i hw;unfold xK at hw;have a:uV t.Rows[k].N t.Value l.r=a35:=by
  simp_all
 unfold uV at a;simp only[E',w2]at a;have:=cA8 (t:=t.Value) (e:=l.r) hk;omega
theorem WH{l:cb}(h:D? l) (ht:env.Tables=l.Tables) (hm:env.s.length<=1048576):w? env:=⟨by rw[ht];exact h.rowsN,hm⟩
def cG(l:cb) (x:ek):ek:=if h:0<=x.ac/\x.ac<(a00 l.e:Int)then l.e[x.ac.toNat]' U else⟨n? #[],0,[],[],[]⟩
theorem WS{l:cb}(h:m? l) (x:ek):ScE (cG l x):=by
 unfold cG;split
 .grind[dP]
 .exact⟨⟨l5,l5,l5⟩,l5⟩
theorem gH{l:cb}(hl:m? l) (j:D? l) {i:Nat}(hi:i<a00 l.e) :∀m∈IA l.e[i] d,0<=m/\m<((cG l l.e[i]).d.length:Int):=by
 intro m hm;have hx:=dP hl (y! hi);unfold IA at hm;rw[(Mf _).2.2,List.mem_flatMap]at hm;obtain⟨r,hr,hm⟩:=hm;have hr:=(mac.1 hr).1;obtain⟨k,hk,rfl⟩:=H' hr;have ht:=BW (j.rule hi hk);have hn:=hx.n _ (y! hk);have a:((QI l l.e[i]).ay.length:Int)=((cG l l.e[i]).d.length:Int):=by
  grind[QI,cG]
 rw[←a];have of:∀e:List fr,(∀n∈e,Zb n)->(oB e (QI l l.e[i])).2.2=0->m∈UC ky e->0<=m/\m<((QI l l.e[i]).ay.length:Int):=by
  intro e c h2 b;unfold UC at b;rw[(Mf _).2.2,X']at b;obtain⟨n,f,rfl⟩:=b;obtain⟨g,h⟩:=mac.1 f;exact aa2 c h2 n g h
 grind[FD,UC,Vd,jad]
theorem MV{l:cb}(hl:m? l) (b:D? l) {i:Nat}(hi:i<a00 l.e) :(IA l.e[i] d).length<=1048576:=by
 have h1:=mM (a:=IA l.e[i] d) (lo:=0) (hi:=((cG l l.e[i]).d.length:Int)) (Mf _).1 (gH hl b hi);have:=(WS hl l.e[i]).ok.defs;omega
def JP(f:kv):Prop:=f.Id<0\/(f.aq < -1\/8<=f.aq)\/(f.ap < -1\/12<=f.ap)\/(f.aq = -1/\f.ap = -1)\/pR f.aa=a36\/(f.ai<0\/109572<f.ai)
instance (f:kv):Decidable (JP f):=by unfold JP;infer_instance
def ZR(f:kv):Prop:=(f.Value.a<1\/6<f.Value.a)\/(f.ap = -1/\¬f.Value.a=1)
instance (f:kv):Decidable (ZR f):=by unfold ZR;infer_instance
def uL(f:kv):Int:=if JP f then 3 else if ZR f then 8 else 0
theorem cB1{a:Prop} [Decidable a] {b:Bool}:(b? (α:=Bool) (if a then M b else M a36) k)=k (decide a&&b):=by
 grind
theorem orQ{a b:Prop} [Decidable a] [Decidable b] :(b? (α:=Bool) (if¬a then M (decide b)else M a35) k)=k (s5 (a\/b)):=by
 grind
theorem cg6{a b:Prop} [Decidable a] [Decidable b] {x y:α}:(if a then x else if b then x else y)=if a\/b then x else y:=by
 grind
theorem aI(f:kv):dj f=M (uL f):=by
 unfold dj;simp only[orQ,cB1,dC,a!,w2,E',R2,bne_iff_ne,ne_eq,cg6];unfold uL;by_cases a:JP f
 .rw[J a];unfold JP at a;simp_all
 .rw[p5 a];unfold JP at a;rw[p5 a];by_cases b:ZR f
  .rw[J b];unfold ZR at b;simp_all
  .rw[p5 b];unfold ZR at b;simp_all
def YH(l:List kv) (i:Nat):Option (Int×Int):=
 match l[i]? with
 |some f=>if¬uL f=0 then M ((i:Int),uL f)else if((l.take i).any λy=>s5 (y.Id=f.Id))=a35 then M ((i:Int),7)else q6
 |none=>q6
def zB(l:List kv):Int×Int:=if 128<(a00 l:Int)then(0,4)else(ff (YH l) l.length).getD (0,0)
theorem ch3{l:List kv}:∀(rest:List kv) (i:Nat) (seen:List Int),l.drop i=rest->(∀x,seen.contains x=(l.take i).any λy=>s5 (y.Id=x))->sg (i:Int) seen rest=M ((ff (λj=>YH l (i+j)) rest.length).getD (0,0))
 |[],i,seen,h,b=>rfl
 |f::rest,i,seen,h,b=>by
  have hi:i<a00 l:=by
   grind[Aac]
  have hf:l[i]=f/\l.drop (i+1)=rest:=by
   grind[Yaa]
  unfold sg;rw[aI,a!];simp only[ff,H!,Nat.add_zero];have he:YH l i=if¬uL f=0 then M ((i:Int),uL f)else if((l.take i).any λy=>s5 (y.Id=f.Id))=a35 then M ((i:Int),7)else q6:=by
   grind[YH]
  rw[he];by_cases a:uL f=0
  case neg=>simp_all
  rw[p5 (v!.2 a),p5 (v!.2 a),b f.Id];by_cases hd:((l.take i).any λy=>s5 (y.Id=f.Id))=a35
  .simp_all
  .rw[p5 hd,p5 hd];dsimp only;rw[show(i:Int)+1=((i+1:Nat):Int)from rfl,ch3 rest (i+1) (f.Id::seen) hf.2 (λx=>by
    grind)]
   grind
theorem CJ(l:List kv):Vn l=M (zB l):=by
 unfold Vn zB;split
 .rfl
 .have:=ch3 (l:=l) l 0 [] l5 (λx=>l5)
  simp_all
theorem pQ{l:List kv}(hl:l.length<=1048576) {i:Nat}(hi:i<a00 l):Cy l (i:Int)=M (match YH l i with|some v=>v.2|none=>0):=by
 have g:ca (Fs l (i:Int) l[i]) 0=M (Ib () (ff (λj=>if(l[j]?.any λy=>s5 (y.Id=l[i].Id))=a35 then M 7 else q6) i)):=
  xb (λj=>(j:Int)) _ i () (λj hj _=>by
   unfold Fs;rw[J,wa U,n! U]
   grind[UD,pa]) (λ_=>by grind[Fs])
 unfold Cy YH;rw[wa hi,a!,n! hi];dsimp only;rw[g];generalize hf:l[i]=f;rw[DC];have hdup:ff (λj=>if(l[j]?.any λy=>s5 (y.Id=f.Id))=a35 then M (7:Int)else q6) i=if((l.take i).any λy=>s5 (y.Id=f.Id))=a35 then M 7 else q6:=by
  cases k:ff (λj=>if(l[j]?.any λy=>s5 (y.Id=f.Id))=a35 then M (7:Int)else q6) i with
  |none=>
   have:((l.take i).any λy=>s5 (y.Id=f.Id))=a36:=by
    rw[Eae];intro y q;obtain⟨j,hj,rfl⟩:=H' q
    grind[Xa]
   simp_all
  |some v=>
   obtain⟨j,hj,h2,-⟩:=Oa.1 k;split at h2
   .rename_i h;injection h2 with h2;rw[n! U,qac]at h;have:((l.take i).any λy=>s5 (y.Id=f.Id))=a35:=by
     rw[List.any_eq_true];exact⟨l[j]' U,by rw[Mad];grind,h⟩
    simp_all
   simp_all
 have hX:((M (pR f.aa)).bind λn=>if n=a35 then if¬f.ai<0 then M (s5 (109572<f.ai))else M a35 else M a35)=M (s5 (pR f.aa=a36\/(f.ai<0\/109572<f.ai))):=by
  grind
 have hY:(if f.aq=(-1)then if¬f.ap=(-1)then(M (pR f.aa)).bind λn=>if n=a35 then if¬f.ai<0 then M (s5 (109572<f.ai))else M a35 else M a35 else M a35
  else(M (pR f.aa)).bind λm=>if m=a35 then if¬f.ai<0 then M (s5 (109572<f.ai))else M a35 else M a35)=M (s5 ((f.aq = -1/\f.ap = -1)\/pR f.aa=a36\/(f.ai<0\/109572<f.ai))):=by
  grind
 have nest:∀{a b c d e z:Prop} [Decidable a] [Decidable b] [Decidable c] [Decidable d] [Decidable e] [Decidable z],(if¬a then if¬b then if¬c then if¬d then if¬e then M (decide z)else M a35 else M a35 else M a35 else M a35 else M a35)=M (s5 (a\/b\/c\/d\/e\/z)):=by
  grind
 rw[hY,nest,a!];have hb3:(f.Id<0\/f.aq < -1\/7<f.aq\/f.ap < -1\/11<f.ap\/(f.aq = -1/\f.ap = -1)\/pR f.aa=a36\/(f.ai<0\/109572<f.ai))↔JP f:=by
  unfold JP
  grind
 have hcond2:(if¬f.Value.a<1 then if¬6<f.Value.a then if f.ap=(-1)then M (f.Value.a !=1)else M a36 else M a35 else M a35)=M (s5 (ZR f)):=by
  unfold ZR;by_cases o:f.Value.a<1
  .grind
  by_cases h2:6<f.Value.a
  .simp_all
  by_cases h:f.ap = -1<;>by_cases p:f.Value.a=1<;>simp[o,h2,h,p]
 grind[uL,Ib]
theorem aN2{l:List kv}{i:Nat}{v:Int×Int}(h:YH l i=M v):v.1=(i:Int)/\v.2≠0:=by
 unfold YH at h
 grind
theorem jK{l:List kv}(hl:l.length<=1048576):Es l=M (zB l):=by
 unfold Es zB;by_cases a:128<(a00 l:Int)
 .simp_all
 rw[p5 a,p5 a];have b:ca (Im l) 0=M (Ib () (ff (YH l) l.length)):=
  xb (λi=>(i:Int)) _ l.length () (λi hi _=>by
   unfold Im;rw[J,pQ hl hi,a!,pa U]
   grind[YH,UD]) (λ_=>by grind[Im])
 rw[b];cases ff (YH l) l.length<;>rfl
structure υ (l:List kv):Prop where
 len:l.length<=128
 c:∀f∈l,uL f=0
 id:∀(i j:Nat) (hi:i<a00 l) (hj:j<a00 l),i<j->l[i].Id≠l[j].Id
theorem UG{l:List kv}(h:(zB l).2=0):υ l:=by
 unfold zB at h;split at h
 .omega
 have hn:∀i,i<a00 l->YH l i=q6:=by
  refine Xa.1 ?_
  cases hf:ff (YH l) l.length with
  |none=>rfl
  |some v=>
   grind[Oa,aN2]
 have a:∀i (hi:i<a00 l),uL l[i]=0/\((l.take i).any λy=>s5 (y.Id=l[i].Id))=a36:=by
  grind[YH]
 refine⟨U,λf hf=>?_,λi j hi hj hij=>?_⟩
 .obtain⟨i,hi,rfl⟩:=H' hf
  simp_all
 .have:=(a j hj).2;rw[Eae]at this;have:=this l[i] (by rw[Mad];grind)
  simp_all
def Av(m i d r:Int) (f:kv):Bool:=s5 (f.aq=m)&&(s5 (f.ap=i)&&(!s5 (r<f.ai)&&OA f.aa d))
def below(g f:kv):Prop:=g.ai<f.ai\/(g.ai=f.ai/\g.Id<=f.Id)
instance (g f:kv):Decidable (below g f):=by unfold below;infer_instance
theorem S5{l:List kv}(hl:l.length<=1048576) (m i d r:Int):∃p,kn l m i d r=M p/\Qu l m i d r=M p/\
 ((p=(⟨0,0,0⟩,a36)/\∀f∈l,Av m i d r f=a36)\/∃f∈l,p=(f.Value,a35)/\Av m i d r f=a35/\∀g∈l,Av m i d r g=a35->below g f):=by
 have c:∀f:kv,(if f.aq=m then if f.ap=i then if¬r<f.ai then(bc f.aa d).bind λv=>M (!v)else M a35 else M a35 else M a35)=M (!Av m i d r f):=by
  grind[Av,Jf]
 have n:∀f:kv,(if f.aq=m then if f.ap=i then if¬r<f.ai then(yg f.aa d).bind λv=>M (!v)else M a35 else M a35 else M a35)=M (!Av m i d r f):=by
  grind[Av,qt]
 have q:∀f g:kv,Mu f g=M (s5 (¬below f g)):=by
  intro f g;unfold Mu below;by_cases h:f.ai=g.ai
  .simp_all
  .rw[J h];congr 1;grind
 have o:∀f g:kv,(if¬g.ai<f.ai then if f.ai=g.ai then M (s5 (g.Id<f.Id))else M a36 else M a35)=M (s5 (¬below f g)):=by
  intro f g;unfold below;by_cases h:g.ai<f.ai
  .rw[p5];congr 1;grind
  .rw[J h];by_cases h2:f.ai=g.ai
   .simp_all
   .rw[p5 h2];grind[decide_eq_false_iff_not]
 have t:=oI (s1:=ln l m i d r) (s2:=Sx l m i d r)
  (λx y=>x=y/\∃j:Nat,j<=a00 l/\x.2=(j:Int)/\((x.1 = -1/\∀f∈l.take j,Av m i d r f=a36)\/∃(k:Nat) (hk:k<a00 l),x.1=(k:Int)/\Av m i d r l[k]=a35/\∀g∈l.take j,Av m i d r g=a35->below g l[k])) (λx=>(a00 l-x.2).toNat)
  (λx y=>x=y/\((x = -1/\∀f∈l,Av m i d r f=a36)\/∃(k:Nat) (hk:k<a00 l),x=(k:Int)/\Av m i d r l[k]=a35/\∀g∈l,Av m i d r g=a35->below g l[k])) (λ_ _=>False) (by
   rintro⟨a,b⟩ y ⟨rfl,j,j1,z,u⟩;dsimp only at z u;subst z;unfold ln Sx;dsimp only;by_cases hj:j<a00 l
   case neg=>
    grind
   rw[J,J,wa hj];simp only[a!,c,n];have htk:l.take (j+1)=l.take j++[l[j]]:=l5
   cases B:Av m i d r l[j]
   .simp only[iac,w3,a!];rw[pa U];refine .inl ⟨_,_,rfl,rfl,⟨rfl,j+1,U,rfl,?_⟩,U⟩
    grind
   .simp only[γ,t!,s7];rcases u with⟨e,u⟩|⟨k,hk,e,w,h2⟩
    .subst e;rw[p5 o4];simp only[a!,w3];rw[pa U];refine .inl ⟨_,_,rfl,rfl,⟨rfl,j+1,U,rfl,?_⟩,U⟩
     grind
    .subst e;rw[J,J,wa hk];simp only[a!,q,o];by_cases hb:below l[j] l[k]
     .rw[u4 (p:=¬below l[j] l[k]) (λh=>h hb)];simp only[t!,s7,a!];rw[pa U];refine .inl ⟨_,_,rfl,rfl,⟨rfl,j+1,U,rfl,.inr ⟨k,hk,rfl,w,λg A s=>?_⟩⟩,U⟩
      grind
     .rw[s6 hb];simp only[w3,a!];rw[pa U];refine .inl ⟨_,_,rfl,rfl,⟨rfl,j+1,U,rfl,.inr ⟨j,hj,rfl,B,λg A s=>?_⟩⟩,U⟩
      grind) l.length (-1,0) (-1,0) U ⟨rfl,0,M' _,rfl,.inl ⟨rfl,λf hf=>by simp at hf⟩⟩
 rcases t with⟨x,y,g1,g2,rfl,g3⟩|⟨_,_,_,_,h⟩
 .unfold kn Qu;rw[g1,g2];simp only[a!];rcases g3 with⟨e,g3⟩|⟨k,hk,e,w,h2⟩
  .simp_all
  .subst e;rw[p5,wa hk]
   grind
 simp_all
theorem bu8{l:List kv}(hl:l.length<=1048576) (m i d r:Int):∃p,kn l m i d r=M p/\
 ((p=(⟨0,0,0⟩,a36)/\∀f∈l,Av m i d r f=a36)\/∃f∈l,p=(f.Value,a35)/\Av m i d r f=a35/\∀g∈l,Av m i d r g=a35->below g f):=by
 have n:∀f:kv,(if f.aq=m then if f.ap=i then if¬r<f.ai then(bc f.aa d).bind λA=>M (!A)else M a35 else M a35 else M a35)=M (!Av m i d r f):=by
  grind[Av,Jf]
 have s:∀f g:kv,Mu f g=M (s5 (¬below f g)):=by
  intro f g;unfold Mu below;by_cases h:f.ai=g.ai
  .simp_all
  .rw[J h];congr 1;grind
 have t:=oI (s1:=ln l m i d r) (s2:=ln l m i d r)
  (λx y=>x=y/\∃j:Nat,j<=a00 l/\x.2=(j:Int)/\((x.1 = -1/\∀f∈l.take j,Av m i d r f=a36)\/∃(k:Nat) (hk:k<a00 l),x.1=(k:Int)/\Av m i d r l[k]=a35/\∀g∈l.take j,Av m i d r g=a35->below g l[k])) (λx=>(a00 l-x.2).toNat)
  (λx y=>x=y/\((x = -1/\∀f∈l,Av m i d r f=a36)\/∃(k:Nat) (hk:k<a00 l),x=(k:Int)/\Av m i d r l[k]=a35/\∀g∈l,Av m i d r g=a35->below g l[k])) (λ_ _=>False) (by
   rintro⟨a,b⟩ y ⟨rfl,j,j1,z,u⟩;dsimp only at z u;subst z;unfold ln;dsimp only;by_cases hj:j<a00 l
   case neg=>
    grind
   rw[J,wa hj];simp only[a!,n];have q:l.take (j+1)=l.take j++[l[j]]:=l5
   cases w:Av m i d r l[j]
   .simp only[iac,w3,a!];rw[pa U];refine .inl ⟨_,_,rfl,rfl,⟨rfl,j+1,U,rfl,?_⟩,U⟩
    grind
   .simp only[γ,t!,s7];rcases u with⟨e,u⟩|⟨k,hk,e,v,h2⟩
    .subst e;rw[p5 o4];simp only[a!,w3];rw[pa U];refine .inl ⟨_,_,rfl,rfl,⟨rfl,j+1,U,rfl,?_⟩,U⟩;refine .inr ⟨j,hj,rfl,w,λg c o=>?_⟩;rw[q]at c;rcases Β.1 c with c|c
     .simp_all
     .rw[ψ]at c;rw[c];exact .inr ⟨rfl,Vad _⟩
    .subst e;rw[J,wa hk];simp only[a!,s];by_cases hb:below l[j] l[k]
     .rw[u4 (p:=¬below l[j] l[k]) (λh=>h hb)];simp only[t!,s7,a!];rw[pa U];refine .inl ⟨_,_,rfl,rfl,⟨rfl,j+1,U,rfl,.inr ⟨k,hk,rfl,v,λg c o=>?_⟩⟩,U⟩
      grind
     .rw[s6 hb];simp only[w3,a!];rw[pa U];refine .inl ⟨_,_,rfl,rfl,⟨rfl,j+1,U,rfl,.inr ⟨j,hj,rfl,w,λg c o=>?_⟩⟩,U⟩;rw[q]at c;rcases Β.1 c with c|c
      .have:=h2 g c o;unfold below at this hb⊢;omega
      .rw[ψ]at c;rw[c];exact .inr ⟨rfl,Vad _⟩) l.length (-1,0) (-1,0) U ⟨rfl,0,M' _,rfl,.inl ⟨rfl,λf hf=>by simp at hf⟩⟩
 rcases t with⟨x,y,g1,g2,rfl,g3⟩|⟨_,_,_,_,h⟩
 .unfold kn;rw[g1];simp only[a!];rcases g3 with⟨e,g3⟩|⟨k,hk,e,v,h2⟩
  .simp_all
  .subst e;rw[p5,wa hk]
   grind
 simp_all
theorem wH{l:List ml}(hl:l.length<=1048576) {step:List ej×Int->Option (Ex (List ej×Int) (List ej) Unit)}
 (c:∀a b,step (a,b)=if b<(a00 l:Int)then(c! l b).bind λd=>(app 16 a ([d.an])).bind λe=>M (i! (e,(aa .i64 (b+1))))else M (i? a)):ca step (([]:List ej),0)=M (.inl (l.map (·.an))):=by
 refine Uc (λi=>((l.take i).map (·.an),(i:Int))) l.length _ (λi hi=>?_) ?_ rfl
 .have h2:(l.take i).length<=a00 l:=o0
  rw[c,J,wa hi,a!,me o0,a!,pa U,O',n! hi]
  grind
 simp_all
theorem dQ{l:cb}{i:Nat}(hi:i<a00 l.e):Te l (i:Int)=M (cG l l.e[i]):=by
 unfold Te cG;rw[wa hi,a!];generalize l.e[i]=x;rw[fQ];by_cases h:0<=x.ac/\x.ac<(a00 l.e:Int)
 .simp_all[if_neg,Nh]
 grind
def CD(s:ek) (d:Int):List Bool:=(o? s.d.length).map λ(k:Nat)=>wB s d (k:Int)
def nC(ms:ek) (l:List Int):List Bool:=(o? ms.d.length).map λ(k:Nat)=>l.any λm=>wB ms m (k:Int)
theorem HE(c:K! s) (hd:0<=d/\d<(a00 s.d:Int)) {l:List Int}(hl:l.length<=1048576) (hm:∀x,x∈l↔Way s d x) 
 (c:∀a b,step (a,b)=if b<(a00 l:Int)then(c! l b).bind λx=>(c! a x).bind λ_=>(put a x a35).bind λq=>M (.go (q,aa .i64 (b+1)))else M (.brk a)) :
 (c! ((o? s.d.length).map f) d).isSome=a35/\∃q,put ((o? s.d.length).map f) d a35=M q/\ca step (q,0)=M (.inl ((o? s.d.length).map λ(k:Nat)=>f k || wB s d (k:Int))):=by
 refine⟨by grind[Ox],_,EB hd.1 hd.2,?_⟩;rw[mR hl (λx hx=>OF ((hm x).1 hx)) _ c];congr 2;apply gac;intro k _;rw[Bool.or_assoc];congr 1;unfold wB;congr 1;rw[Hac,Ξ,Ξ,hm,ZA]
theorem jy{l:List α}{i:Int}(h:(c! l i).isSome=a35):∃x,c! l i=M x:=Option.isSome_iff_exists.1 h
theorem aZ3(c:K! s) (hd:0<=d/\d<(a00 s.d:Int)) :sh s.n s.ac s.w s.d s.f ((o? s.d.length).map f) d=M ((o? s.d.length).map λ(k:Nat)=>f k || wB s d (k:Int)):=by
 obtain⟨l,h1,h2,e⟩:=Vl c d;obtain⟨m1,q,m2,m3⟩:=HE c hd (f:=f) h2 e (step:=np l) (λa b=>by grind[np]);obtain⟨x,hx⟩:=jy m1
 grind[sh,Xc]
theorem cq9(c:K! s) (hd:0<=d/\d<(a00 s.d:Int)) :Bg ((o? s.d.length).map f) s d=M ((o? s.d.length).map λ(k:Nat)=>f k || wB s d (k:Int)):=by
 have hl:=(nB s d s.d.length).len;have hdf:=c.defs;obtain⟨m1,q,m2,m3⟩:=HE c hd (f:=f) (l:=LF s d s.d.length) U (λx=>ZA) (step:=Lj (LF s d s.d.length)) (λa b=>by grind[Lj]);obtain⟨x,hx⟩:=jy m1
 grind[Bg,Ep]
theorem cH{l:List Int}(hl:l.length<=1048576) (hm:∀m∈l,0<=m/\m<(a00 ms.d:Int)) {g:List Bool->Int->Option (List Bool)}
 (c:∀f:Nat->Bool,∀m∈l,g ((o? ms.d.length).map f) m=M ((o? ms.d.length).map λ(k:Nat)=>f k || wB ms m (k:Int)))
 (d:∀a b,step (a,b)=if b<(a00 l:Int)then(c! l b).bind λx=>(g a x).bind λq=>M (.go (q,aa .i64 (b+1)))else M (.brk a)):ca step (l! ms.d.length a36,0)=M (.inl (nC ms l)):=by
 refine Uc (λi=>(nC ms (l.take i),(i:Int))) l.length _ (λi hi=>?_) ?_ (by simp[nC,FC])
 .rw[d,J,wa hi,a!];unfold nC;rw[c _ _ (y! hi),a!,pa U,O',n! hi]
  grind
 simp_all
theorem GP{l:cb}(hl:m? l) (C:D? l) (E:∀x∈l.e,a00 x.f<=64) {i:Nat}(hi:i<a00 l.e) (hd:0<=d/\d<(l.e[i].d.length:Int)) {c:ri}(hc:c.s.length<=1048576)
 (N:kc l (i:Int) c a35 d=M YT):∃p,Cc l (i:Int) c d=M p/\Bh l (i:Int) c d=M p/\(p.2.2.Code=0->l6 p.1):=by
 have hx:=dP hl (y! hi);have k:=WS hl l.e[i];have o:=gH hl C hi (d:=d);have F:=MV hl C hi (d:=d);have j8:=E _ (y! hi);have s:=dQ hi;unfold Cc Bh;rw[N,a!,p5 (by simp[YT]),wa hi,a!,s];have I:Qi l (i:Int)=M (l.e[i].n,l.e[i].ac,l.e[i].w,l.e[i].d,l.e[i].f,(cG l l.e[i]).n,(cG l l.e[i]).ac,(cG l l.e[i]).w,(cG l l.e[i]).d,(cG l l.e[i]).f,l! l.e[i].d.length a36,l! (cG l l.e[i]).d.length a36):=by
  have hb:=(C.few hi).1;have D:=hx.ok.defs;have h:=k.ok.defs;unfold Qi;rw[wa hi,a!];generalize l.e[i]=x at hb D h⊢;rw[DB U U,a!];by_cases H:0<=x.ac
  .have u:x.ac<(a00 l.e:Int):=by
    grind[BB]
   unfold cG at h⊢;rw[dif_pos ⟨H,u⟩]at h⊢;rw[J H,Nh H u,a!,DB U U];rfl
  grind[cG]
 rw[I,a!];dsimp only;generalize cG l l.e[i]=ms at k o s⊢;generalize hxx:l.e[i]=x at *;have D:=hx.ok.defs;have h:=k.ok.defs;rw[DB (n:=a00 x.d) U U];simp only[a!];rw[DB (n:=a00 ms.d) U U];simp only[a!];have A:th d x.n x.ac x.w x.d x.f ms.n ms.ac ms.w ms.d ms.f (l! x.d.length a36) (l! ms.d.length a36)=M (CD x d,nC ms (IA x d)):=by
  obtain⟨lt,j6,h2,V⟩:=Vl hx.ok d;obtain⟨m1,q,m2,m3⟩:=HE hx.ok hd (f:=λ_=>a36) h2 V (step:=vh lt) (λa b=>by grind[vh]);obtain⟨y,O⟩:=jy m1;unfold th;rw[FC,O,a!,m2,a!,show Xc ⟨x.n,x.ac,x.w,x.d,x.f⟩ d=M lt from j6,a!,m3,a!];dsimp only;rw[show aj ⟨x.n,x.ac,x.w,x.d,x.f⟩ d=M (IA x d)from PA hx.ok hd,a!];rw[cH (ms:=ms) (l:=IA x d) F o (g:=λa m=>sh ms.n ms.ac ms.w ms.d ms.f a m) (λf m hm=>aZ3 k.ok (o m hm)) (step:=uh ms.n ms.ac ms.w ms.d ms.f (IA x d)) (λa b=>by grind[uh])]
  simp_all[CD]
 have B:Bl d x (l! x.d.length a36)=M (CD x d):=by
  have u:=(nB x d x.d.length).len;obtain⟨m1,q,m2,m3⟩:=HE hx.ok hd (f:=λ_=>a36) (l:=LF x d x.d.length) U (λy=>ZA) (step:=Cl (LF x d x.d.length)) (λa b=>by grind[Cl]);obtain⟨y,O⟩:=jy m1;unfold Bl;rw[FC,O,a!,m2,a!,Ep hx.ok,a!,m3]
  simp_all[CD]
 have t:Kj l (i:Int) d x (l! ms.d.length a36)=M (nC ms (IA x d)):=by
  unfold Kj;rw[lH hx.ok j8 hx.ok.g hd,a!];rw[cH (ms:=ms) (l:=IA x d) F o (g:=λa m=>Bg a ms m) (λf m hm=>cq9 k.ok (o m hm)) (step:=Mj l (i:Int) (IA x d)) (λa b=>by grind[Mj])];rfl
 rw[A,B,t];simp only[a!];have L:(CD x d).length=a00 x.d:=by simp[CD]
 have j4:(nC ms (IA x d)).length=a00 ms.d:=by simp[nC]
 generalize CD x d=w at L⊢;generalize nC ms (IA x d)=wm at j4⊢;unfold Ng Dl;dsimp only;rw[wH (l:=ms.d) h (step:=xh ⟨⟨x.n,x.ac,x.w,x.d,x.f⟩,⟨ms.n,ms.ac,ms.w,ms.d,ms.f⟩,w,wm⟩) (λa b=>by grind[xh]),a!,s,a!];dsimp only;have K:=oI (s1:=wh l c ⟨⟨x.n,x.ac,x.w,x.d,x.f⟩,⟨ms.n,ms.ac,ms.w,ms.d,ms.f⟩,w,wm⟩) (s2:=Qh l c wm ms)
  (λa b=>∃j:Nat,j<=a00 c.s/\a.2.2=(j:Int)/\b.2.2=(j:Int)/\a.1=b.1/\a.1.length=j/\a.2.1.length=j/\b.2.1.length=j) (λa=>(a00 c.s-a.2.2).toNat)
  (λa b=>a.1=b.1/\a.1.length=a00 c.s) (λa b=>∃e:ot,e.Code≠0/\a=(⟨[],[],[]⟩,⟨0,[],[],[],[],[]⟩,e)/\b=([],[],e)) (by
   rintro⟨a1,a2,a3⟩ ⟨S,T,b3⟩ ⟨j,j1,P,Q,R,W,X,Y⟩;dsimp only at P Q R W X Y;subst P;subst Q;subst R;unfold wh Qh;dsimp only;by_cases hj:j<a00 c.s
   case neg=>
    rw[p5,p5]
    grind
   rw[J,J];unfold Fu;rw[wa hj];simp only[a!];have he:w? (ia.mk c.z c.s[j] [] [] [] l.Tables):=WH C rfl l5;rcases eP k he (w:=wm) U (j:Int)with⟨v,r,s1,s2,G⟩|⟨e,z,s0,s1,s2⟩
   .rw[show Ca ⟨ms.n,ms.ac,ms.w,ms.d,ms.f⟩ _ _ _=_ from s1,s2];simp only[a!,YT,not_true,s7];rw[me o0,a!,me o0,a!,me o0,a!,pa U];exact .inl ⟨_,_,rfl,rfl,⟨j+1,U,rfl,rfl,rfl,l4,l4,l4⟩,o0⟩
   simp_all) c.s.length (([]:List (List bz)),([]:List ve),0) (([]:List (List bz)),([]:List (List Int)),0) l5 ⟨0,M' _,rfl,rfl,rfl,rfl,rfl,rfl⟩
 rcases K with⟨⟨a1,a2⟩,⟨S,T⟩,g1,g2,g3,g4⟩|⟨a,b,g1,g2,e,e0,rfl,rfl⟩
 .dsimp only at g3 g4;subst g3;rw[g1,g2];simp only[a!,not_true,s7];unfold HF;rw[s,a!,wH (l:=ms.d) h (step:=xz ms) (λa b=>by grind[xz])];simp only[a!];have he:w? (ia.mk c.z c.w [] a1 (ms.d.map (·.an)) l.Tables):=WH C rfl l4;rcases eP hx he (w:=w) U (-1)with⟨v,r,s1,s2,G⟩|⟨e,z,s0,s1,s2⟩
  .rw[show Ca ⟨x.n,x.ac,x.w,x.d,x.f⟩ _ _ _=_ from s1,s2];simp only[a!,YT,not_true,s7];rw[Nh hd.1 (by have:=G.vl;omega),Nh hd.1 (by have:=G.rl;omega)];exact⟨_,rfl,rfl,λ_=>G.vp _ (y! _)⟩
  simp_all
 simp_all
noncomputable def S3(l:cb) (i:Nat) (hi:i<a00 l.e) (d:Int):vk:=
 ⟨⟨l.e[i].n,l.e[i].ac,l.e[i].w,l.e[i].d,l.e[i].f⟩,⟨(cG l l.e[i]).n,(cG l l.e[i]).ac,(cG l l.e[i]).w,(cG l l.e[i]).d,(cG l l.e[i]).f⟩,CD l.e[i] d,nC (cG l l.e[i]) (IA l.e[i] d)⟩
theorem CM{l:cb}(hl:m? l) (t:D? l) (o:∀x∈l.e,a00 x.f<=64) {i:Nat}(hi:i<a00 l.e) (hd:0<=d/\d<(l.e[i].d.length:Int)) {c:ri}
 (v:kc l (i:Int) c a35 d=M YT):Cc l (i:Int) c d=(Ng l (i:Int) c (S3 l i hi d)).bind λj=>
 if¬j.2.2.Code=0 then
  M ((bz.mk 0 0 0),0,j.2.2)
 else
 (c! j.1.bd d).bind λw=>
 (c! j.1.f d).bind λz=>
 M (w,z,(ot.mk 0 0 0 0)):=by
 have hx:=dP hl (y! hi);have h:=WS hl l.e[i];have k:=gH hl t hi (d:=d);have u:=MV hl t hi (d:=d);have hfx:=o _ (y! hi);unfold Cc S3;rw[v,a!,p5 (by simp[YT])];have s:Qi l (i:Int)=M (l.e[i].n,l.e[i].ac,l.e[i].w,l.e[i].d,l.e[i].f,(cG l l.e[i]).n,(cG l l.e[i]).ac,(cG l l.e[i]).w,(cG l l.e[i]).d,(cG l l.e[i]).f,l! l.e[i].d.length a36,l! (cG l l.e[i]).d.length a36):=by
  have hb:=(t.few hi).1;have n:=hx.ok.defs;have e:=h.ok.defs;unfold Qi;rw[wa hi,a!];generalize l.e[i]=x at hb n e⊢;rw[DB U U,a!];by_cases r:0<=x.ac
  .have p:x.ac<(a00 l.e:Int):=by
    grind[BB]
   unfold cG at e⊢;rw[dif_pos ⟨r,p⟩]at e⊢;rw[J r,Nh r p,a!,DB U U];rfl
  grind[cG]
 rw[s,a!];dsimp only;generalize cG l l.e[i]=ms at h k⊢;generalize hxx:l.e[i]=x at *;have n:=hx.ok.defs;have e:=h.ok.defs;have hI11:th d x.n x.ac x.w x.d x.f ms.n ms.ac ms.w ms.d ms.f (l! x.d.length a36) (l! ms.d.length a36)=M (CD x d,nC ms (IA x d)):=by
  obtain⟨lt,A,h2,B⟩:=Vl hx.ok d;obtain⟨m1,q,m2,m3⟩:=HE hx.ok hd (f:=λ_=>a36) h2 B (step:=vh lt) (λa b=>by grind[vh]);obtain⟨y,C⟩:=jy m1;unfold th;rw[FC,C,a!,m2,a!,show Xc ⟨x.n,x.ac,x.w,x.d,x.f⟩ d=M lt from A,a!,m3,a!];dsimp only;rw[show aj ⟨x.n,x.ac,x.w,x.d,x.f⟩ d=M (IA x d)from PA hx.ok hd,a!];rw[cH (ms:=ms) (l:=IA x d) u k (g:=λa m=>sh ms.n ms.ac ms.w ms.d ms.f a m) (λf m hm=>aZ3 h.ok (k m hm)) (step:=uh ms.n ms.ac ms.w ms.d ms.f (IA x d)) (λa b=>by grind[uh])]
  simp_all[CD]
 simp_all
theorem HY{l:cb}(k:D? l) {x:ek}(hx:ScE x) (f:ScE ms) {c:ri}(hc:c.s.length<=1048576) {wm:List Bool}(hmk:w.length=a00 x.d) (hmm:wm.length=a00 ms.d) (i:Int) :
 ∃p,Ng l i c ⟨⟨x.n,x.ac,x.w,x.d,x.f⟩,⟨ms.n,ms.ac,ms.w,ms.d,ms.f⟩,w,wm⟩=M p/\(p.2.2.Code=0->P! x.d.length p.1.bd p.1.f/\w? p.2.1):=by
 have g:=f.ok.defs;unfold Ng;dsimp only;rw[wH (l:=ms.d) g (step:=xh ⟨⟨x.n,x.ac,x.w,x.d,x.f⟩,⟨ms.n,ms.ac,ms.w,ms.d,ms.f⟩,w,wm⟩) (λa b=>by grind[xh]),a!];dsimp only;have h:=G3 (s:=wh l c ⟨⟨x.n,x.ac,x.w,x.d,x.f⟩,⟨ms.n,ms.ac,ms.w,ms.d,ms.f⟩,w,wm⟩)
  (λa=>∃j:Nat,j<=a00 c.s/\a.2.2=(j:Int)/\a.1.length=j/\a.2.1.length=j) (λa=>(a00 c.s-a.2.2).toNat)
  (λa=>a.1.length=a00 c.s) (λa=>∃e:ot,e.Code≠0/\a=(⟨[],[],[]⟩,⟨0,[],[],[],[],[]⟩,e)) (by
   rintro⟨a1,a2,a3⟩ ⟨j,j1,m,o,q⟩;dsimp only at m o q;subst m;unfold wh;dsimp only;by_cases hj:j<a00 c.s
   case neg=>
    rw[p5]
    grind
   rw[J];rw[wa hj];simp only[a!];have he:w? (ia.mk c.z c.s[j] [] [] [] l.Tables):=WH k rfl l5;rcases w5 f he (w:=wm) U (j:Int)with⟨v,r,s1,n⟩|⟨e,d,s0,s1⟩
   .rw[show Ca ⟨ms.n,ms.ac,ms.w,ms.d,ms.f⟩ _ _ _=_ from s1];simp only[a!,YT,not_true,s7];rw[me o0,a!,me o0,a!,pa U];exact .inl ⟨_,rfl,⟨j+1,U,rfl,l4,l4⟩,o0⟩
   simp_all) (x:=(([]:List (List bz)),([]:List ve),0)) ⟨0,M' _,rfl,rfl,rfl⟩
 rcases h with⟨⟨a1,a2⟩,g1,g4⟩|⟨a,g1,e,e0,rfl⟩
 .dsimp only at g4;rw[g1];simp only[a!];have he:w? (ia.mk c.z c.w [] a1 (ms.d.map (·.an)) l.Tables):=WH k rfl l4;rcases w5 hx he (w:=w) U (-1)with⟨v,r,s1,n⟩|⟨e,d,s0,s1⟩
  .rw[show Ca ⟨x.n,x.ac,x.w,x.d,x.f⟩ _ _ _=_ from s1];simp only[a!,YT,not_true,s7];exact⟨_,rfl,λ_=>⟨n,he.1,he.2⟩⟩
  simp_all
 simp_all
theorem V5{l:cb}(hl:m? l) (g:D? l) (a:∀x∈l.e,a00 x.f<=64) {i:Nat}(hi:i<a00 l.e) (hd:0<=d/\d<(l.e[i].d.length:Int)) {c:ri}(hc:c.s.length<=1048576)
 (b:kc l (i:Int) c a35 d=M YT):∃p,Cc l (i:Int) c d=M p/\(p.2.2.Code=0->l6 p.1):=by
 rw[CM hl g a hi hd b];obtain⟨p,h,j⟩:=HY g (dP hl (y! hi)) (WS hl l.e[i]) hc (w:=CD l.e[i] d) (wm:=nC (cG l l.e[i]) (IA l.e[i] d)) (by simp[CD]) (by simp[nC]) (i:Int);unfold S3;rw[h,a!];by_cases f:p.2.2.Code=0
 case neg=>simp_all
 rw[p5 (v!.2 f)];have e:=(j f).1;rw[Nh hd.1 (by have:=e.vl;omega),a!,Nh hd.1 (by have:=e.rl;omega)];exact⟨_,rfl,λ_=>e.vp _ (y! _)⟩
def Nq(l:cb) (x:ek):List ml×Bool:=if h:0<=x.ac/\x.ac<(a00 l.e:Int)then((l.e[x.ac.toNat]' U).w,a35)else([],a36)
theorem ME{l:cb}{i:Nat}(hi:i<a00 l.e):xe l (i:Int)=M (Nq l l.e[i]):=by
 unfold xe Nq;rw[wa hi];simp only[a!,fQ];generalize l.e[i]=x;by_cases h:0<=x.ac/\x.ac<(a00 l.e:Int)
 .have hc:s5 (x.ac<0\/(a00 l.e:Int)<=x.ac)=a36:=l4
  simp_all[Nh]
 grind
theorem aA{l:cb}{i:Nat}(hi:i<a00 l.e):Df l (i:Int)=M (Nq l l.e[i]):=by
 unfold Df Nq;rw[wa hi];simp only[a!,fQ];generalize l.e[i]=x;by_cases h:0<=x.ac/\x.ac<(a00 l.e:Int)
 .have hc:s5 (x.ac<0\/(a00 l.e:Int)<=x.ac)=a36:=l4
  simp_all[Nh]
 grind
theorem ZN{l:cb}{i:Nat}(hi:i<a00 l.e):Xg l (i:Int)=M ((Nq l l.e[i]).1,if(Nq l l.e[i]).2=a35 then 8 else 0):=by
 unfold Xg Nq;rw[wa hi];simp only[a!,fQ];generalize l.e[i]=x;by_cases h:0<=x.ac/\x.ac<(a00 l.e:Int)
 .have hc:s5 (x.ac<0\/(a00 l.e:Int)<=x.ac)=a36:=l4
  simp_all[Nh]
 grind
def ap7(l:cb) (x:ek) (f:kv):Option ej:=
 if f.ap = -1 then M ⟨1,0⟩else if f.ap<0 then q6 else((if f.aq = -1 then x.w else(Nq l x).1)[f.ap.toNat]?).map (·.an)
noncomputable def U7(l:cb) (x:ek) (members:Int) (f:kv):Int:=
 if members<=f.aq then 6 else
 match ap7 l x f with
 |none=>6
 |some t=>if¬(f.Value.a=t.a/\f.Value.g=t.g)then 8 else if uV f.Value.N t l.r=a36 then 3 else 0
noncomputable def hhF(l:cb) (x:ek) (h:mu) (i:Nat):Option (Int×Int):=
 match h.ab[i]? with
 |some f=>if¬U7 l x h.s f=0 then M ((i:Int),U7 l x h.s f)else q6
 |none=>q6
theorem inO{n lo hi:Int}:(b? (α:=Bool) (if¬n<lo then M (s5 (hi<n))else M a35) k)=k (!(s5 (lo<=n)&&s5 (n<=hi))):=by
 grind[decide]
theorem aT9{c:Int}:(b? (α:=Bool) (if a=b then M (c !=d)else M a35) k)=k (s5 (¬(a=b/\c=d))):=by
 by_cases e:a=b
 .rw[J e,a!];congr 1
  grind
 simp_all
theorem ck4{l:cb}{h:mu}{i:Nat}(hi:i<a00 l.e) (e:h.aj=(i:Int)) (hl:h.ab.length<=128):ca (bh l h (Nq l l.e[i])) 0=M (Ib () (ff (hhF l l.e[i] h) h.ab.length)):=
 xb (λj=>(j:Int)) _ h.ab.length () (λj hj _=>by
  unfold bh hhF;rw[J,wa hj,n! hj,e,wa hi];simp only[a!];generalize h.ab[j]=f;unfold U7;by_cases c:h.s<=f.aq
  .rw[J c,J c,J o4];rfl
  rw[p5 c,p5 c];have d:(if f.aq=(-1)then M l.e[i].w else M (Nq l l.e[i]).1)=M (if f.aq = -1 then l.e[i].w else(Nq l l.e[i]).1):=o0
  rw[d,a!];unfold ap7;generalize (if f.aq = -1 then l.e[i].w else(Nq l l.e[i]).1)=a;have fin:∀t:ej,(b? (α:=Bool) (if f.Value.a=t.a then M (f.Value.g !=t.g)else M a35) λg=>if g=a35 then M (l? (((j:Nat):Int),(8:Int)):Ex Int Unit (Int×Int))else(Tc (ej.mk t.a t.g) l.r).bind λb=>b? (α:=Bool) (if¬f.Value.N<b.1 then M (s5 (b.2<f.Value.N))else M a35) λk=>if k=a35 then M (l? (((j:Nat):Int),3))else M (i! (aa .i64 ((j:Int)+1)))) =
   M (UD (((j+1:Nat):Int)) (if¬(if¬(f.Value.a=t.a/\f.Value.g=t.g)then(8:Int)else if uV f.Value.N t l.r=a36 then 3 else 0)=0 then M ((j:Int),(if¬(f.Value.a=t.a/\f.Value.g=t.g)then(8:Int)else if uV f.Value.N t l.r=a36 then 3 else 0))else q6)):=by
   intro t;rw[aT9,pa U];by_cases h2:f.Value.a=t.a/\f.Value.g=t.g
   .rw[u4 (p:=¬(f.Value.a=t.a/\f.Value.g=t.g)) (λh=>h h2),p5 l5,il,a!,inO];simp only[h2,not_true,and_self,s7];unfold uV;by_cases m:(s5 ((RT t l.r).1<=f.Value.N)&&s5 (f.Value.N<=(RT t l.r).2))=a35
    all_goals simp_all[UD]
   .rw[s6 h2,J rfl,J h2,J o4];rfl
  by_cases h2:f.ap = -1
  .rw[p5 (v!.2 h2),J h2,a!];dsimp only;exact fin ⟨1,0⟩
  .rw[J h2,p5 h2,fQ];by_cases m:f.ap<0\/(a00 a:Int)<=f.ap
   .rw[s6 m,J rfl,a!];dsimp only;have:(if f.ap<0 then q6 else(a[f.ap.toNat]?).map (·.an))=q6:=by
     grind
    rw[this];dsimp only;rw[J o4];rfl
   simp_all[if_neg,Nh]) (λ_=>by grind[bh])
theorem ck3{l:cb}{h:mu}{i:Nat}(hi:i<a00 l.e) (d:h.aj=(i:Int)) (hl:h.ab.length<=128) (hm:∀f∈h.ab,-1<=f.aq):ca (Lm l h) 0=M (Ib () (ff (hhF l l.e[i] h) h.ab.length)):=
 xb (λj=>(j:Int)) _ h.ab.length () (λj hj _=>by
  have c:=hm _ (y! hj);have m:vq l h h.ab[j]=M (U7 l l.e[i] h.s h.ab[j]):=by
   unfold vq U7;rw[d,wa hi,aA hi];generalize h.ab[j]=f at c;simp only[a!];by_cases k:h.s<=f.aq
   .simp_all
   rw[p5 k,p5 k];have b:(if 0<=f.aq then M (Nq l l.e[i]).1 else M l.e[i].w)=M (if f.aq = -1 then l.e[i].w else(Nq l l.e[i]).1):=by
    grind
   rw[b,a!];unfold ap7;generalize (if f.aq = -1 then l.e[i].w else(Nq l l.e[i]).1)=e;have fin:∀t:ej,((gA f.Value).bind λa=>if¬(a.a=t.a/\a.g=t.g)then M 8 else(aw f.Value.N (ej.mk t.a t.g) l.r).bind λg=>if g=a36 then M 3 else M 0)=M (if¬(f.Value.a=t.a/\f.Value.g=t.g)then(8:Int)else if uV f.Value.N t l.r=a36 then 3 else 0):=by
    intro t;unfold gA;rw[a!];dsimp only;by_cases h2:f.Value.a=t.a/\f.Value.g=t.g
    .rw[p5 (v!.2 h2),p5 (v!.2 h2),yO,a!];cases uV f.Value.N t l.r<;>rfl
    simp_all
   by_cases h2:f.ap = -1
   .rw[p5 (v!.2 h2),J h2,a!];dsimp only;exact fin ⟨1,0⟩
   .rw[J h2,p5 h2,fQ];by_cases h3:f.ap<0\/(a00 e:Int)<=f.ap
    .grind
    simp_all[if_neg,Nh]
  unfold Lm hhF;rw[J,wa hj,a!,m,a!,pa U,n! hj];dsimp only;split<;>rfl) (λ_=>by grind[Lm])
noncomputable def hhV(l:cb) (h:mu):Int×Int:=
 match l.e[h.aj.toNat]? with
 |none=>(-1,6)
 |some x=>if h.aj<0 then(-1,6)else if h.Id<0\/h.s<0\/8<h.s\/(h.s≠0/\(Nq l x).2=a36)then(-1,3)else
  if¬(zB h.ab).2=0 then zB h.ab else(ff (hhF l x h) h.ab.length).getD (0,0)
theorem aU7{a b c d:Prop} [Decidable a] [Decidable b] [Decidable c] [Decidable d] {m:Bool}:(b? (α:=Bool) (if¬a then if¬b then if¬c then if¬d then M (!m)else M a36 else M a35 else M a35 else M a35) k)=k (s5 (a\/b\/c\/(¬d/\m=a36))):=by
 by_cases a<;>by_cases b<;>by_cases c<;>by_cases d<;>cases m<;>simp[*]
theorem ji(l:cb) (h:mu) (hl:l.e.length<=1048576):Bf l h=M (hhV l h):=by
 unfold Bf hhV;rw[fQ];by_cases hs:h.aj<0\/(a00 l.e:Int)<=h.aj
 .grind
 rw[p5 l4];obtain⟨i,hi⟩:=W! (show 0<=h.aj by omega);have a:i<a00 l.e:=U
 rw[hi,ME a,a!,Rab,n! a];dsimp only;rw[aU7,p5 (show¬((i:Int)<0) by omega)];by_cases hb:h.Id<0\/h.s<0\/8<h.s\/(¬h.s=0/\(Nq l l.e[i]).2=a36)
 .simp_all
 rw[p5 l4,p5 hb,CJ,a!];by_cases hf:(zB h.ab).2=0
 case neg=>simp_all
 rw[p5 (v!.2 hf),p5 (v!.2 hf),ck4 a hi (UG hf).len,a!];cases ff (hhF l l.e[i] h) h.ab.length<;>rfl
theorem aP9{f:kv}(h:uL f=0):¬JP f/\¬ZR f:=by
 grind[uL]
theorem kK(l:cb) (h:mu) (hl:l.e.length<=1048576) (e:h.ab.length<=1048576):Gs l h=M (hhV l h):=by
 unfold Gs hhV;rw[fQ];by_cases hs:h.aj<0\/(a00 l.e:Int)<=h.aj
 .grind
 rw[p5 l4];obtain⟨i,hi⟩:=W! (show 0<=h.aj by omega);have a:i<a00 l.e:=U
 rw[hi,aA a,a!,Rab,n! a];dsimp only;rw[aU7,p5 (show¬((i:Int)<0) by omega)];by_cases hb:h.Id<0\/h.s<0\/8<h.s\/(¬h.s=0/\(Nq l l.e[i]).2=a36)
 .simp_all
 rw[p5 l4,p5 hb,jK e,a!];by_cases hf:(zB h.ab).2=0
 case neg=>simp_all
 have b:=UG hf;rw[p5 (v!.2 hf),p5 (v!.2 hf),ck3 a hi b.len (λf d=>by
  have:=(aP9 (b.c f d)).1;unfold JP at this;omega),a!]
 cases ff (hhF l l.e[i] h) h.ab.length<;>rfl
structure bt9 (l:cb) (h:mu) (i:Nat):Prop where
 hi:i<a00 l.e
 sc:h.aj=(i:Int)
 m:0<=h.s/\h.s<=8
 ms:h.s≠0->(Nq l l.e[i]).2=a35
 f:υ h.ab
 t:∀f∈h.ab,f.aq<h.s/\∃t,ap7 l l.e[i] f=M t/\f.Value.a=t.a/\f.Value.g=t.g/\uV f.Value.N t l.r=a35
theorem jM{l:cb}{h:mu}(hv:(hhV l h).2=0):∃i,bt9 l h i:=by
 unfold hhV at hv
 cases hx:l.e[h.aj.toNat]? with
 |none=>simp_all
 |some x=>
  rw[hx]at hv;dsimp only at hv;split at hv
  .omega
  split at hv
  .omega
  split at hv
  .omega
  rename_i h0 h1 h2;obtain⟨b,rfl⟩:=List.getElem?_eq_some_iff.1 hx;refine⟨h.aj.toNat,b,U,U,λhm=>?_,UG (Kab.1 h2),λf hf=>?_⟩
  .simp_all
  .have hn:ff (hhF l l.e[h.aj.toNat] h) h.ab.length=q6:=by
    cases hff:ff (hhF l l.e[h.aj.toNat] h) h.ab.length with
    |none=>rfl
    |some v=>
     grind[hhF,Oa]
   obtain⟨k,hk,rfl⟩:=H' hf;have:=Xa.1 hn k hk;unfold hhF at this;rw[n! hk]at this;dsimp only at this;split at this
   .cases this
   .rename_i a;have a:=Kab.1 a;unfold U7 at a
    grind
noncomputable def kJ(l:List kv) (m i d r:Int):bz×Bool:=(kn l m i d r).getD (⟨0,0,0⟩,a36)
theorem DQ{l:List kv}(hl:l.length<=1048576) (m i d r:Int):kn l m i d r=M (kJ l m i d r)/\
 ((kJ l m i d r=(⟨0,0,0⟩,a36)/\∀f∈l,Av m i d r f=a36)\/∃f∈l,kJ l m i d r=(f.Value,a35)/\Av m i d r f=a35/\∀g∈l,Av m i d r g=a35->below g f):=by
 obtain⟨p,h1,h3⟩:=bu8 hl m i d r
 grind[kJ]
theorem aY9{l:List kv}(hl:l.length<=1048576) (m i d r:Int):Qu l m i d r=M (kJ l m i d r):=by
 obtain⟨p,h1,h2,-⟩:=S5 hl m i d r
 grind[DQ]
noncomputable def Ps(l:List kv) (m:Int) (n:Nat) (d r:Int):List bz×Bool:=
 if((o? n).all λi=>(kJ l m (i:Int) d r).2)=a35 then((o? n).map λ(i:Nat)=>(kJ l m (i:Int) d r).1,a35)else([],a36)
theorem L5{l:List kv}:ff (λi=>if(kJ l m (i:Int) d r).2=a36 then M (([],a36):List bz×Bool)else q6) n=if((o? n).all λi=>(kJ l m (i:Int) d r).2)=a35 then q6 else M ([],a36):=by
 by_cases h:((o? n).all λi=>(kJ l m (i:Int) d r).2)=a35
 .simp_all[Xa]
 .rw[p5 h]
  cases hf:ff (λi=>if(kJ l m (i:Int) d r).2=a36 then M (([],a36):List bz×Bool)else q6) n with
  |none=>
   grind[Xa]
  |some v=>
   grind[Oa]
theorem vP{l:List kv}(hl:l.length<=1048576) (hn:n<=1048576) (m d r:Int):Cf l m (n:Int) d r=M (Ps l m n d r):=by
 unfold Cf;rw[DB U U,a!];have a:ca (bf l m d r (l! n ⟨0,0,0⟩)) (l! n ⟨0,0,0⟩,0)=M (Ib ((o? n).map λ(i:Nat)=>(kJ l m (i:Int) d r).1) (ff (λi=>if(kJ l m (i:Int) d r).2=a36 then M (([],a36):List bz×Bool)else q6) n)):=by
  refine xb (step:=bf l m d r (l! n ⟨0,0,0⟩)) (λt=>(((o? n).map λ(i:Nat)=>(kJ l m (i:Int) d r).1).take t++l! (n-t) ⟨0,0,0⟩,(t:Int))) _ n _ (λt ht _=>?_) (λ_=>?_) l5
  .unfold bf;dsimp only;rw[J l4,(DQ hl m (t:Int) d r).1,a!];by_cases h:(kJ l m (t:Int) d r).2=a36
   .rw[J h,J h];rfl
   .rw[p5 h,p5 h,wa o0,a!,WD o0,a!,pa U,dA ht];unfold UD;dsimp only;congr 3;rw[Fac _ _ o0,show t-(((o? n).map λ(i:Nat)=>(kJ l m (i:Int) d r).1).take t).length=0 by grind,show n-t=(n-(t+1))+1 by omega,Ψ,Xab];simp
  simp_all[bf,dac]
 rw[a,L5];unfold Ps;split<;>rfl
theorem wV{h:mu}(hl:h.ab.length<=1048576) (hn:fs.length<=1048576) (m d r:Int):Fp h m fs d r=M (Ps h.ab m fs.length d r):=by
 unfold Fp;have a:ca (Ml h m fs d r) (([]:List bz),0)=M (Ib ((o? fs.length).map λ(i:Nat)=>(kJ h.ab m (i:Int) d r).1) (ff (λi=>if(kJ h.ab m (i:Int) d r).2=a36 then M (([],a36):List bz×Bool)else q6) fs.length)):=by
  refine xb (step:=Ml h m fs d r) (λt=>(((o? fs.length).map λ(i:Nat)=>(kJ h.ab m (i:Int) d r).1).take t,(t:Int))) _ fs.length _ (λt ht _=>?_) (λ_=>?_) l5
  .unfold Ml;dsimp only;rw[J,aY9 hl m (t:Int) d r,a!];by_cases h:(kJ h.ab m (t:Int) d r).2=a36
   .rw[J h,J h];rfl
   .rw[p5 h,p5 h,me o0,a!,pa U,dA ht];rfl
  simp_all[Ml,dac]
 rw[a,L5];unfold Ps;split<;>rfl
noncomputable def prS(l:List kv) (d r:Int) (m:Nat):Bool:=(kJ l (m:Int) (-1) d r).2&&(s5 ((kJ l (m:Int) (-1) d r).1.a=1)&&((kJ l (m:Int) (-1) d r).1.N==1))
theorem aj4{l:List kv}{m:Nat}:prS l d r m=((kJ l (m:Int) (-1) d r).2&&(s5 ((kJ l (m:Int) (-1) d r).1.a=1)&&((kJ l (m:Int) (-1) d r).1.N==1))):=rfl
noncomputable def Wp(h:mu) (d r:Int):List Int:=((o? (min (max h.s 0) 8).toNat).filter (prS h.ab d r)).map λ(m:Nat)=>(m:Int)
theorem rO{v:bz}{b:Bool}:(b? (α:=Bool) (if b=a35 then if v.a=1 then M (v.N==1)else M a36 else M a36) k)=k (b&&(s5 (v.a=1)&&(v.N==1))):=by
 grind
theorem OV{h:mu}(hl:h.ab.length<=1048576) (d r:Int):sj h d r=M (Wp h d r):=by
 obtain⟨n,hn⟩:∃n,(min (max h.s 0) 8).toNat=n:=⟨_,rfl⟩;have hn8:n<=8:=U
 have bound:∀t,t<=n->(((o? t).filter (prS h.ab d r)).map λ(m:Nat)=>(m:Int)).length<=t:=by
  grind
 have e1:ca (tg h d r) (([]:List Int),0)=M (.inl (Wp h d r)):=by
  refine Uc (λt=>(((o? t).filter (prS h.ab d r)).map λ(m:Nat)=>(m:Int),(t:Int))) n _ (λt ht=>?_) ?_ rfl
  .have:=bound t U;unfold tg;dsimp only;rw[J,(DQ hl (t:Int) (-1) d r).1,a!,rO,pa U,nac]
   grind[aj4,me]
  grind[tg,Wp]
 grind[sj]
theorem PV{h:mu}(hl:h.ab.length<=1048576) (d r:Int):uq h d r=M (Wp h d r):=by
 obtain⟨n,hn⟩:∃n,(min (max h.s 0) 8).toNat=n:=⟨_,rfl⟩;have hn8:n<=8:=U
 have bound:∀t,t<=n->(((o? t).filter (prS h.ab d r)).map λ(m:Nat)=>(m:Int)).length<=t:=by
  grind
 have e2:ca (Rk h d r) (([]:List Int),0)=M (.inl (Wp h d r)):=by
  refine Uc (λt=>(((o? t).filter (prS h.ab d r)).map λ(m:Nat)=>(m:Int),(t:Int))) n _ (λt ht=>?_) ?_ rfl
  .have:=bound t U;unfold Rk;dsimp only;rw[J,a!,J o0,aY9 hl (t:Int) (-1) d r,a!,rO,pa U,nac]
   grind[aj4,me]
  grind[Rk,Wp]
 grind[uq]
noncomputable def Xu(l:cb) (x:ek) (h:mu) (d r:Int):ri×Int:=
 if d<0\/109572<d then(⟨0,[],[]⟩,3)else
 if(Ps h.ab (-1) x.w.length d r).2=a36 then(⟨0,[],[]⟩,6)else
 if((Wp h d r).all λm=>(Ps h.ab m (Nq l x).1.length d r).2)=a35 then(⟨d,(Ps h.ab (-1) x.w.length d r).1,(Wp h d r).map λm=>(Ps h.ab m (Nq l x).1.length d r).1⟩,0)else(⟨0,[],[]⟩,6)
theorem NV{L:List Int}(hL:L.length<=1048576) {v:Int->List bz×Bool}{g:Int->Option (List bz×Bool)}(d:∀m∈L,g m=M (v m)) {step:List (List bz)×Int->Option (Ex (List (List bz)×Int) (List (List bz)) (ri×Int))}
 (e:∀a b,step (a,b)=if b<(a00 L:Int)then(c! L b).bind λm=>(g m).bind λx=>if x.2=a36 then M (.ret (⟨0,[],[]⟩,6))else(app 24 a ([x.1])).bind λq=>M (.go (q,aa .i64 (b+1)))else M (.brk a)) :
 ca step (([]:List (List bz)),0)=M (if(L.all λm=>(v m).2)=a35 then .inl (L.map λm=>(v m).1)else .inr (⟨0,[],[]⟩,6)):=by
 have c:ca step (([]:List (List bz)),0)=M (Ib (L.map λm=>(v m).1) (ff (λi=>if(L[i]?.any λm=>!(v m).2)=a35 then M ((⟨0,[],[]⟩,6):ri×Int)else q6) L.length)):=by
  refine xb (step:=step) (λt=>((L.map λm=>(v m).1).take t,(t:Int))) _ L.length _ (λt ht _=>?_) (λ_=>?_) l5
  .rw[e,J,wa ht,a!,d _ (y! ht),a!,n! ht];simp only[qac];by_cases hv:(v L[t]).2=a36
   .grind[UD]
   .rw[p5 hv,me o0,a!,pa U,O']
    grind[UD]
  simp_all[dac]
 rw[c];by_cases ha:(L.all λm=>(v m).2)=a35
 .rw[J ha,Xa.2 (λi hi=>by
   simp_all)]
  rfl
 .rw[p5 ha]
  cases hf:ff (λi=>if(L[i]?.any λm=>!(v m).2)=a35 then M ((⟨0,[],[]⟩,6):ri×Int)else q6) L.length with
  |none=>
   exfalso;apply ha;rw[R'];intro m hm;obtain⟨k,hk,rfl⟩:=H' hm
   grind[Xa]
  |some w=>
   obtain⟨k,_,h2,_⟩:=Oa.1 hf;split at h2
   .rw[←h2];rfl
   simp_all
theorem QJ(h:mu) (d r:Int):(Wp h d r).length<=8:=by
 grind[Wp]
theorem aO{l:cb}(hl:m? l) (x:ek):(Nq l x).1.length<=1048576:=by
 unfold Nq;split
 .exact(hl.s _ (y! _)).2.2.1
 simp
theorem FP{l:cb}(hl:m? l) {h:mu}(hf:h.ab.length<=1048576) {i:Nat}(hi:i<a00 l.e) (f:h.aj=(i:Int)) (d r:Int):Ti l h d r=M (Xu l l.e[i] h d r):=by
 have c:=(hl.s _ (y! hi)).2.2.1;have e:=aO hl l.e[i];have hml:=QJ h d r;unfold Ti Xu;rw[fQ];by_cases hd:d<0\/109572<d
 .simp_all
 rw[p5 l4,p5 hd,f,wa hi,a!,wV hf c,a!];by_cases hv:(Ps h.ab (-1) l.e[i].w.length d r).2=a36
 .simp_all
 rw[p5 hv,p5 hv,aA hi,a!,PV hf d r,a!];rw[NV (L:=Wp h d r) U (v:=λm=>Ps h.ab m (Nq l l.e[i]).1.length d r) (g:=λm=>Fp h m (Nq l l.e[i]).1 d r) (λm _=>wV hf e m d r) (step:=Km h d r (Nq l l.e[i]) (Wp h d r)) (λa b=>by grind[Km]),a!]
 grind
theorem aU{l:cb}(hl:m? l) (n:(Qo l).Code=0) {h:mu}(hv:(hhV l h).2=0) {i:Nat}(hi:i<a00 l.e) (k:h.aj=(i:Int)) (d r:Int):rh l h d r=M (Xu l l.e[i] h d r):=by
 have c:=(hl.s _ (y! hi)).2.2.1;have e:=aO hl l.e[i];have hml:=QJ h d r;obtain⟨i',j⟩:=jM hv;have hf:h.ab.length<=1048576:=by have:=j.f.len;omega
 unfold rh Xu;rw[nk hl,a!,pB n,p5 l5,ji l h hl.ns,a!,p5 (v!.2 hv),fQ];by_cases hd:d<0\/109572<d
 .simp_all
 rw[p5 l4,p5 hd,k,wa hi,a!,vP hf c,a!];by_cases hv:(Ps h.ab (-1) l.e[i].w.length d r).2=a36
 .simp_all
 rw[p5 hv,p5 hv,ME hi,a!,OV hf d r,a!];rw[NV (L:=Wp h d r) U (v:=λm=>Ps h.ab m (Nq l l.e[i]).1.length d r) (g:=λm=>Cf h.ab m ((Nq l l.e[i]).1.length:Int) d r) (λm _=>vP hf e m d r) (step:=Gn h d r (Nq l l.e[i]) (Wp h d r)) (λa b=>by grind[Gn]),a!]
 grind
def av8(l:cb) (fs:List ml) (vs:List bz):Prop:=a00 vs=a00 fs/\∀j (h1:j<a00 vs) (h2:j<a00 fs),vs[j].a=fs[j].an.a/\vs[j].g=fs[j].an.g/\uV vs[j].N fs[j].an l.r=a35
theorem mE{l:cb}{vs:List bz}(hl:fs.length<=1048576) (h:av8 l fs vs):Ff l vs fs=M (0,0):=by
 obtain⟨h1,h2⟩:=h;unfold Ff;rw[p5,p5];have:ca (Gf l vs fs) 0=M (.inl ()):=by
  refine Uc (λi=>(i:Int)) vs.length _ (λi hi=>?_) ?_ rfl
  .obtain⟨a,b,c⟩:=h2 i hi U;unfold Gf;rw[J,wa hi,a!,wa U,a!,aT9,u4 (p:=¬(vs[i].a=(fs[i]' U).an.a/\vs[i].g=(fs[i]' U).an.g)) (λh=>h ⟨a,b⟩),p5 l5,il,a!,inO]
   grind[uV,pa]
  simp_all[Gf]
 simp_all
theorem M5{l:cb}{x:ek}{h:mu}{i:Nat}(a:bt9 l h i) (hx:l.e[i]'a.hi=x) (hm:fs=if m = -1 then x.w else(Nq l x).1) (hv:(Ps h.ab m fs.length d r).2=a35):av8 l fs (Ps h.ab m fs.length d r).1:=by
 unfold Ps at hv⊢;split at hv
 case isFalse=>grind
 rename_i ha;rw[J ha];refine⟨l5,λj b h2=>?_⟩;simp only[Bab,List.length_range]at b;simp only[Mac,xae];have hj:=R'.1 ha j l4;have hf:h.ab.length<=1048576:=by have:=a.f.len;omega
 rcases(DQ hf m (j:Int) d r).2 with⟨e,-⟩|⟨f,f1,f2,f3,-⟩
 .simp_all
 .rw[f2];dsimp only;obtain⟨-,t,t1,t2,t3,t4⟩:=a.t f f1;unfold Av at f3;simp only[E',w2]at f3;unfold ap7 at t1
  simp_all
theorem lS{l:cb}(hl:m? l) (q:(Qo l).Code=0) {h:mu}{i:Nat}(a:bt9 l h i) (hc:(Xu l (l.e[i]'a.hi) h d r).2=0) {def_:Int}(hd:0<=def_/\def_<((l.e[i]'a.hi).d.length:Int)) :
 kc l (i:Int) (Xu l (l.e[i]'a.hi) h d r).1 a35 def_=M YT/\(Xu l (l.e[i]'a.hi) h d r).1.s.length<=8:=by
 have hi:=a.hi;have e:=(hl.s _ (y! hi)).2.2.1;have g:=aO hl l.e[i];have hml:=QJ h d r;have hns:=hl.ns;unfold Xu at hc⊢;split at hc
 .omega
 rename_i p;rw[p5 p];split at hc
 .omega
 rename_i h2;rw[p5 h2];split at hc
 case isFalse=>omega
 rename_i n;rw[J n];have h2:(Ps h.ab (-1) l.e[i].w.length d r).2=a35:=l4
 have t:=M5 a rfl (m:=-1) (fs:=l.e[i].w) l5 h2;refine⟨?_,l4⟩;unfold kc;rw[nk hl,a!,p5 (v!.2 q),wa hi,a!];have b:(if¬(i:Int)<0 then if¬(a00 l.e:Int)<=(i:Int)then if a35=a35 then if¬def_<0 then M (s5 ((l.e[i].d.length:Int)<=def_))else M a35 else M a36 else M a35 else M a35)=M a36:=by
  simp_all
 rw[b,a!,p5 l5];have c:Sl l (i:Int) ⟨d,(Ps h.ab (-1) l.e[i].w.length d r).1,(Wp h d r).map λm=>(Ps h.ab m (Nq l l.e[i]).1.length d r).1⟩=M (0,0,0):=by
  unfold Sl;dsimp only;rw[fQ,p5 l4,fQ,p5 l4,wa hi,a!,mE e t,a!,p5 l5,ZN hi,a!];have hlim:¬(if(Nq l l.e[i]).2=a35 then(8:Int)else 0)<(((Wp h d r).map λm=>(Ps h.ab m (Nq l l.e[i]).1.length d r).1).length:Int):=by
   rw[Bab];split
   .omega
   .rename_i hb;have hm0:h.s=0:=Jad λo=>hb (a.ms o)
    grind[Wp]
  rw[p5 hlim];have hlp:ca (ai l ⟨d,(Ps h.ab (-1) l.e[i].w.length d r).1,(Wp h d r).map λm=>(Ps h.ab m (Nq l l.e[i]).1.length d r).1⟩ ((Nq l l.e[i]).1,if(Nq l l.e[i]).2=a35 then 8 else 0)) 0=M (.inl ()):=by
   refine Uc (λi=>(i:Int)) (Wp h d r).length _ (λj hj=>?_) ?_ rfl
   .unfold ai;dsimp only;rw[J l4,wa l4,a!];simp only[Mac];have f:=y! hj;have k:=R'.1 n _ f;have hne:(Wp h d r)[j]≠-1:=by
     grind[Wp]
    rw[mE g (M5 a rfl (fs:=(Nq l l.e[i]).1) l4 k),a!,p5 l5,pa U]
   simp_all[ai]
  simp_all
 rw[c];rfl
structure ε (l:cb) (i:Nat) (c:ma):Prop where
 v:(Qo l).Code=0
 hi:i<a00 l.e
 d:0<=c.u/\c.u<((l.e[i]'hi).d.length:Int)
 r:0<=c.aw/\c.aw<=5
theorem W6{l:cb}(h:m? l) {c:ma}(hv:Vb l sc c=M 0):∃i:Nat,sc=(i:Int)/\ε l i c:=by
 unfold Vb tu at hv;rw[CC h]at hv;simp only[a!]at hv;by_cases f:(Qo l).Code=0
 case neg=>
  simp_all
 have:((Qo l).Code==0)=a35:=l4
 rw[this,p5 l5]at hv;by_cases a:sc<0
 .simp_all
 by_cases h2:(a00 l.e:Int)<=sc
 .simp_all
 by_cases b:c.u<0
 .simp_all
 obtain⟨i,rfl⟩:=W! (show 0<=sc by omega);have hi:i<a00 l.e:=U
 rw[J a,J h2,J b,wa hi]at hv;simp only[a!]at hv;by_cases d:(l.e[i].d.length:Int)<=c.u
 .simp_all
 rw[u4 d,p5 l5,Nh U U]at hv;simp only[a!,vR]at hv;split at hv
 .grind
 by_cases e:0<=c.aw/\c.aw<=5
 .exact⟨i,rfl,f,hi,U,e⟩
 simp_all
theorem as3{l:cb}(h:m? l) {c:ma}(hv:Ia l sc c=M 0):∃i:Nat,sc=(i:Int)/\ε l i c:=by
 unfold Ia at hv;rw[nk h,a!]at hv;by_cases a:(Qo l).Code=0
 case neg=>simp_all
 rw[pB a,p5 l5]at hv;by_cases b:sc<0
 .grind
 by_cases h2:(a00 l.e:Int)<=sc
 .grind
 by_cases d:c.u<0
 .grind
 obtain⟨i,rfl⟩:=W! (show 0<=sc by omega);have hi:i<a00 l.e:=U
 rw[J b,J h2,J d,wa hi]at hv;simp only[a!]at hv;by_cases e:(l.e[i].d.length:Int)<=c.u
 .simp_all
 rw[u4 e,p5 l5,Nh U U]at hv;simp only[a!,rng]at hv;split at hv
 .grind
 by_cases f:0<=c.aw/\c.aw<=5
 .exact⟨i,rfl,a,hi,U,f⟩
 grind
noncomputable def Pb(l:cb) (i:Nat) (h:mu) (def_ rec d:Int):bz×Int:=
 match l.e[i]? with
 |none=>(⟨0,0,0⟩,1)
 |some x=>
  if¬(Xu l x h d rec).2=0 then(⟨0,0,0⟩,(Xu l x h d rec).2)else
  ((((Cc l (i:Int) (Xu l x h d rec).1 def_).getD (⟨0,0,0⟩,0,YT)).1),((Cc l (i:Int) (Xu l x h d rec).1 def_).getD (⟨0,0,0⟩,0,YT)).2.2.Code)
structure Ctx (l:cb) (h:mu) (c:ma) (i:Nat):Prop where
 ok:m? l
 few:∀x∈l.e,a00 x.f<=64
 cf:ε l i c
 hv:(hhV l h).2=0
 sc:h.aj=(i:Int)
variable {l:cb}{i:Nat}{c:ma}{h:mu}
theorem gT(H:Ctx l h c i) (rec d:Int):∃q:ri×Int,rh l h d rec=M q/\Ti l h d rec=M q/\
 ((q.2≠0/\Pb l i h c.u rec d=(⟨0,0,0⟩,q.2))\/(q.2=0/\∃p,Cc l h.aj q.1 c.u=M p/\Bh l h.aj q.1 c.u=M p/\Pb l i h c.u rec d=(p.1,p.2.2.Code)/\(p.2.2.Code=0->l6 p.1))):=by
 have hi:=H.cf.hi;obtain⟨e,a⟩:=jM H.hv;have b:e=i:=by have:=a.sc;have:=H.sc;omega
 subst b;have hf:h.ab.length<=1048576:=by have:=a.f.len;omega
 refine⟨Xu l l.e[e] h d rec,aU H.ok H.cf.v H.hv hi H.sc d rec,FP H.ok hf hi H.sc d rec,?_⟩;unfold Pb;rw[n! hi];dsimp only;by_cases hc:(Xu l l.e[e] h d rec).2=0
 .right;refine⟨hc,?_⟩;obtain⟨g,k2⟩:=lS H.ok H.cf.v a hc H.cf.d;obtain⟨p,j,k,p3⟩:=GP H.ok (oF H.cf.v) H.few hi H.cf.d U g;rw[p5 (v!.2 hc),H.sc,j,k]
  simp_all
 simp_all
theorem ab8{v:bz}(h:l6 v):-1000000000000000<=v.N/\v.N<=1000000000000000:=by
 rcases h with h|h
 .simp_all
 .have:=h.range;omega
theorem fT(H:Ctx l h c i) (rec d:Int) (h0:(Pb l i h c.u rec d).2=0):-1000000000000000<=(Pb l i h c.u rec d).1.N/\(Pb l i h c.u rec d).1.N<=1000000000000000:=by
 obtain⟨q,-,-,hq⟩:=gT H rec d;rcases hq with⟨q1,q2⟩|⟨-,p,-,-,p3,p4⟩
 all_goals simp_all[ab8]
def Lw:Int->List hO->Int->Prop
 |a,[],b=>a=b
 |a,p::l,b=>p.j=a/\p.j<p.To/\Lw p.To l b
theorem lE{to:Int}:∀{a:Int}{l:List Int},a<to->l.Pairwise (·<·)->(∀x∈l,a<x/\x<to)->Lw a (qy to a l) to
 |a,[],h,_,_=>⟨rfl,h,rfl⟩
 |a,x::l,h,b,hm=>by
  rw[List.pairwise_cons]at b;have hx:=hm x l5;exact⟨rfl,hx.1,lE hx.2 b.2 λy c=>⟨b.1 y c,(hm y o0).2⟩⟩
def Cv(v:Int->Int) (l:List hO):Int:=(l.map λp=>v p.j*(p.To-p.j)).sum
def Hr(l:List hO):Int:=(l.map λp=>p.To-p.j).sum
theorem Dr:∀{a b:Int}{l:List hO},Lw a l b->Hr l=b-a/\a<=b
 |a,b,[],h=>by simp only[Lw]at h;grind[Hr]
 |a,b,p::l,h=>by
  obtain⟨h1,h2,c⟩:=h;obtain⟨h4,h5⟩:=Dr c
  grind[Hr]
theorem zK{v:Int->Int}{l:List hO}:Cv v (l++[p])=Cv v l+v p.j*(p.To-p.j):=by simp[Cv]
theorem PQ{l:List hO}:Hr (l++[p])=Hr l+(p.To-p.j):=by simp[Hr]
theorem SG:∀{a b:Int}{l:List hO}(j:Nat),Lw a l b->∃c,Lw a (l.take j) c/\c<=b
 |a,b,l,0,h=>⟨a,by simp[Lw],(Dr h).2⟩
 |a,b,[],j+1,h=>⟨b,l4,Vad _⟩
 |a,b,p::l,j+1,h=>by
  obtain⟨d,h2,e⟩:=h;obtain⟨c,f,g⟩:=SG j e;exact⟨c,⟨d,h2,f⟩,g⟩
theorem wF:∀{a b:Int}{l:List hO},Lw a l b->∀p∈l,a<=p.j/\p.j<p.To/\p.To<=b
 |a,b,[],h,p,c=>by simp at c
 |a,b,q::l,h,p,c=>by
  obtain⟨h1,h2,d⟩:=h;have h4:=(Dr d).2;rcases Y'.1 c with rfl|c
  .omega
  .have:=wF d p c;omega
theorem aI6{n k:Int}{B:Nat}(h1:-(B:Int)<=n/\n<=B) (h2:0<=k):-(B*k)<=n*k/\n*k<=B*k:=by
 constructor
 .rw[←Int.neg_mul];simp_all[kac]
 simp_all[kac]
theorem xP{v:Int->Int}:∀{a b:Int}{l:List hO},Lw a l b->(∀p∈l,-1000000000000000<=v p.j/\v p.j<=1000000000000000)->-(1000000000000000*Hr l)<=Cv v l/\Cv v l<=1000000000000000*Hr l
 |a,b,[],h,hv=>by simp[Cv,Hr]
 |a,b,p::l,h,hv=>by
  obtain⟨h1,h2,c⟩:=h;have ih:=xP c λq hq=>hv q o0;have hp:=aI6 (n:=v p.j) (k:=p.To-p.j) (B:=1000000000000000) (hv p l5) U
  grind[Cv,Hr]
noncomputable def OD(v:Int->bz×Int) (rounding:Int) (l:List hO):Int×Int:=
 match ff (λj=>match l[j]? with|some p=>if¬(v p.j).2=0 then M (v p.j).2 else q6|none=>q6) l.length with
 |some e=>(0,e)
 |none=>(max (OQ (Cv (λd=>(v d).1.N) l) (Hr l) rounding).1 0,0)
theorem nU(H:Ctx l h c i) (hq:Lw a q b) (hab:a<b/\b-a<=31) (hlen:q.length<=65536) (rec m:Int) :
 Hj l h c q rec=M (OD (Pb l i h c.u rec) c.aw q)/\
 ((ca (Pe l h c m rec q) (0,0)).bind (λy=>match y with|.inr v=>M v|.inl I=>(M (b-a)).bind λL=>(zk I L c.aw).bind λE=>b? (α:=Int) (if E.1<0 then M 0 else M E.1) λK=>M (ka.mk m K 0)))=M ⟨m,(OD (Pb l i h c.u rec) c.aw q).1,(OD (Pb l i h c.u rec) c.aw q).2⟩:=by
 have o:∀j (hj:j<a00 q),(∀k,k<j->(match q[k]? with|some p=>if¬(Pb l i h c.u rec p.j).2=0 then M (Pb l i h c.u rec p.j).2 else q6|none=>(q6:Option Int))=q6)->
  (0<=Hr (q.take j)/\Hr (q.take j)<=31)/\-(1000000000000000*Hr (q.take j))<=Cv (λd=>(Pb l i h c.u rec d).1.N) (q.take j)/\Cv (λd=>(Pb l i h c.u rec d).1.N) (q.take j)<=1000000000000000*Hr (q.take j):=by
  intro j hj hn;obtain⟨e,O,h2⟩:=SG j hq;obtain⟨h3,h4⟩:=Dr O;refine⟨U,xP O λp j8=>?_⟩;obtain⟨k,hk,rfl⟩:=H' j8;rw[bac]at hk;have:=hn k U;rw[n! U]at this
  simp_all[fT]
 have x:(∀k,k<a00 q->(match q[k]? with|some p=>if¬(Pb l i h c.u rec p.j).2=0 then M (Pb l i h c.u rec p.j).2 else q6|none=>(q6:Option Int))=q6)->
  -(1000000000000000*Hr q)<=Cv (λd=>(Pb l i h c.u rec d).1.N) q/\Cv (λd=>(Pb l i h c.u rec d).1.N) q<=1000000000000000*Hr q:=by
  intro hn;refine xP hq λp j8=>?_;obtain⟨k,hk,rfl⟩:=H' j8
  simp_all[fT]
 generalize P:Pb l i h c.u rec=V at *;have D:∀j (hj:j<a00 q),(∀k,k<j->(match q[k]? with|some p=>if¬(V p.j).2=0 then M (V p.j).2 else q6|none=>(q6:Option Int))=q6)->
  (-1000000000000000<=(V q[j].j).1.N/\(V q[j].j).1.N<=1000000000000000\/¬(V q[j].j).2=0):=by
  intro j hj _;by_cases s:(V q[j].j).2=0
  .left;have:=fT H rec q[j].j l4
   simp_all
  omega
 have e1:ca (ee l h c q rec) (0,0,0)=M (Ib (Cv (λd=>(V d).1.N) q,Hr q) (ff (λj=>(match q[j]? with|some p=>if¬(V p.j).2=0 then M (V p.j).2 else q6|none=>(q6:Option Int)).map λe=>((0:Int),e)) q.length)):=by
  refine xb (step:=ee l h c q rec) (λj=>(Cv (λd=>(V d).1.N) (q.take j),Hr (q.take j),(j:Int))) _ q.length _ (λj hj hn=>?_) (λ_=>?_) rfl
  .have f:∀k,k<j->(match q[k]? with|some p=>if¬(V p.j).2=0 then M (V p.j).2 else q6|none=>(q6:Option Int))=q6:=λk hk=>by
    simp_all
   obtain⟨s1,s2,Q⟩:=o j hj f;have hm:=wF hq _ (y! hj);obtain⟨z,j4,-,G⟩:=gT H rec q[j].j;rw[P]at G;have hb:=D j hj f;unfold ee;dsimp only;rw[J,wa hj,a!,j4,a!,n! hj];dsimp only;rcases G with⟨t,C⟩|⟨t,p,C,-,F,R⟩
   .rw[J t,C,J t];rfl
   .rw[p5 (v!.2 t),C,a!];have yN:(V q[j].j).1=p.1:=by rw[F]
    have yC:(V q[j].j).2=p.2.2.Code:=by rw[F]
    by_cases s:p.2.2.Code=0
    .rw[p5 (v!.2 s),yC,p5 (v!.2 s)];have w:-1000000000000000<=p.1.N/\p.1.N<=1000000000000000:=by
      simp_all
     have A:=aI6 (n:=p.1.N) (k:=q[j].To-q[j].j) (B:=1000000000000000) w U;rw[show((1000000000000000:Nat):Int)=1000000000000000 from rfl]at A;rw[g! (n:=q[j].To-q[j].j) U U,g! (n:=p.1.N*(q[j].To-q[j].j)) U U,g! U U,g! U U,pa U,O',n! hj];simp only[pab,zK,PQ,yN];rfl
    .rw[J s,yC,J s];rfl
  simp_all[ee]
 have e2:ca (Pe l h c m rec q) (0,0)=M (Ib (Cv (λd=>(V d).1.N) q) (ff (λj=>(match q[j]? with|some p=>if¬(V p.j).2=0 then M (V p.j).2 else q6|none=>(q6:Option Int)).map λe=>(ka.mk m 0 e)) q.length)):=by
  refine xb (step:=Pe l h c m rec q) (λj=>(Cv (λd=>(V d).1.N) (q.take j),(j:Int))) _ q.length _ (λj hj hn=>?_) (λ_=>?_) rfl
  .have f:∀k,k<j->(match q[k]? with|some p=>if¬(V p.j).2=0 then M (V p.j).2 else q6|none=>(q6:Option Int))=q6:=λk hk=>by
    simp_all
   obtain⟨s1,s2,Q⟩:=o j hj f;have hm:=wF hq _ (y! hj);obtain⟨z,-,j4,G⟩:=gT H rec q[j].j;rw[P]at G;have hb:=D j hj f;unfold Pe;dsimp only;rw[J,wa hj,a!,j4,a!,n! hj];dsimp only;rcases G with⟨t,C⟩|⟨t,p,-,C,F,R⟩
   .rw[J t,C,J t];rfl
   .rw[p5 (v!.2 t),C,a!];have yN:(V q[j].j).1=p.1:=by rw[F]
    have yC:(V q[j].j).2=p.2.2.Code:=by rw[F]
    by_cases s:p.2.2.Code=0
    .rw[p5 (v!.2 s),yC,p5 (v!.2 s)];have w:-1000000000000000<=p.1.N/\p.1.N<=1000000000000000:=by
      simp_all
     have A:=aI6 (n:=p.1.N) (k:=q[j].To-q[j].j) (B:=1000000000000000) w U;rw[show((1000000000000000:Nat):Int)=1000000000000000 from rfl]at A;rw[g! (n:=q[j].To-q[j].j) U U,g! (n:=p.1.N*(q[j].To-q[j].j)) U U,g! U U,pa U,O',n! hj];simp only[pab,zK,yN];rfl
    .rw[J s,yC,J s];rfl
  simp_all[Pe]
 have u:∀{ρ:Type} (g:Int->ρ),ff (λj=>(match q[j]? with|some p=>if¬(V p.j).2=0 then M (V p.j).2 else q6|none=>(q6:Option Int)).map g) q.length=(ff (λj=>match q[j]? with|some p=>if¬(V p.j).2=0 then M (V p.j).2 else q6|none=>(q6:Option Int)) q.length).map g:=λg=>DJ g;unfold Hj OD;rw[e1,e2,u,u];obtain⟨d1,d2⟩:=Dr hq
 cases hf:ff (λj=>match q[j]? with|some p=>if¬(V p.j).2=0 then M (V p.j).2 else q6|none=>(q6:Option Int)) q.length with
 |some e=>exact⟨rfl,rfl⟩
 |none=>
  have hw:=x (Xa.1 hf);simp only[Ead,VJ,a!];rw[Ah,vC,←d1];simp only[a!];have hr:=H.cf.r;have hdz:(OQ (Cv (λd=>(V d).1.N) q) (Hr q) c.aw).2=0:=by
   grind[OQ]
  grind
theorem Z3(H:Ctx l h c i) (rec d:Int):∃q:ri×Int,rh l h d rec=M q/\
 ((q.2≠0/\Pb l i h c.u rec d=(⟨0,0,0⟩,q.2))\/(q.2=0/\∃p,Cc l h.aj q.1 c.u=M p/\Pb l i h c.u rec d=(p.1,p.2.2.Code)/\(p.2.2.Code=0->l6 p.1))):=by
 have hi:=H.cf.hi;obtain⟨b,e⟩:=jM H.hv;have a:b=i:=by have:=e.sc;have:=H.sc;omega
 subst a;refine⟨Xu l l.e[b] h d rec,aU H.ok H.cf.v H.hv hi H.sc d rec,?_⟩;unfold Pb;rw[n! hi];dsimp only;by_cases hc:(Xu l l.e[b] h d rec).2=0
 .right;refine⟨hc,?_⟩;obtain⟨f,k2⟩:=lS H.ok H.cf.v e hc H.cf.d;obtain⟨p,g,p3⟩:=V5 H.ok (oF H.cf.v) H.few hi H.cf.d U f;rw[p5 (v!.2 hc),H.sc,g]
  simp_all
 simp_all
theorem wI(H:Ctx l h c i) (rec d:Int) (h0:(Pb l i h c.u rec d).2=0):-1000000000000000<=(Pb l i h c.u rec d).1.N/\(Pb l i h c.u rec d).1.N<=1000000000000000:=by
 obtain⟨q,-,hq⟩:=Z3 H rec d;rcases hq with⟨q1,q2⟩|⟨-,p,-,p3,p4⟩
 all_goals simp_all[ab8]
theorem av2(H:Ctx l h c i) (hq:Lw a q b) (hab:a<b/\b-a<=31) (hlen:q.length<=65536) (rec:Int) :
 Hj l h c q rec=M (OD (Pb l i h c.u rec) c.aw q):=by
 have m:∀j (hj:j<a00 q),(∀k,k<j->(match q[k]? with|some p=>if¬(Pb l i h c.u rec p.j).2=0 then M (Pb l i h c.u rec p.j).2 else q6|none=>(q6:Option Int))=q6)->
  (0<=Hr (q.take j)/\Hr (q.take j)<=31)/\-(1000000000000000*Hr (q.take j))<=Cv (λd=>(Pb l i h c.u rec d).1.N) (q.take j)/\Cv (λd=>(Pb l i h c.u rec d).1.N) (q.take j)<=1000000000000000*Hr (q.take j):=by
  intro j hj hn;obtain⟨e,C,h2⟩:=SG j hq;obtain⟨h3,h4⟩:=Dr C;refine⟨U,xP C λp x=>?_⟩;obtain⟨k,hk,rfl⟩:=H' x;rw[bac]at hk;have:=hn k U;rw[n! U]at this
  simp_all[wI]
 have f:(∀k,k<a00 q->(match q[k]? with|some p=>if¬(Pb l i h c.u rec p.j).2=0 then M (Pb l i h c.u rec p.j).2 else q6|none=>(q6:Option Int))=q6)->
  -(1000000000000000*Hr q)<=Cv (λd=>(Pb l i h c.u rec d).1.N) q/\Cv (λd=>(Pb l i h c.u rec d).1.N) q<=1000000000000000*Hr q:=by
  intro hn;refine xP hq λp x=>?_;obtain⟨k,hk,rfl⟩:=H' x
  simp_all[wI]
 generalize F:Pb l i h c.u rec=V at *;have w:∀j (hj:j<a00 q),(∀k,k<j->(match q[k]? with|some p=>if¬(V p.j).2=0 then M (V p.j).2 else q6|none=>(q6:Option Int))=q6)->
  (-1000000000000000<=(V q[j].j).1.N/\(V q[j].j).1.N<=1000000000000000\/¬(V q[j].j).2=0):=by
  intro j hj _;by_cases o:(V q[j].j).2=0
  .left;have:=wI H rec q[j].j l4
   simp_all
  omega
 have e1:ca (ee l h c q rec) (0,0,0)=M (Ib (Cv (λd=>(V d).1.N) q,Hr q) (ff (λj=>(match q[j]? with|some p=>if¬(V p.j).2=0 then M (V p.j).2 else q6|none=>(q6:Option Int)).map λe=>((0:Int),e)) q.length)):=by
  refine xb (step:=ee l h c q rec) (λj=>(Cv (λd=>(V d).1.N) (q.take j),Hr (q.take j),(j:Int))) _ q.length _ (λj hj hn=>?_) (λ_=>?_) rfl
  .have t:∀k,k<j->(match q[k]? with|some p=>if¬(V p.j).2=0 then M (V p.j).2 else q6|none=>(q6:Option Int))=q6:=λk hk=>by
    simp_all
   obtain⟨s1,s2,s3⟩:=m j hj t;have hm:=wF hq _ (y! hj);obtain⟨z,G,E⟩:=Z3 H rec q[j].j;rw[F]at E;have hb:=w j hj t;unfold ee;dsimp only;rw[J,wa hj,a!,G,a!,n! hj];dsimp only;rcases E with⟨u,A⟩|⟨u,p,A,D,y4⟩
   .rw[J u,A,J u];rfl
   .rw[p5 (v!.2 u),A,a!];have yN:(V q[j].j).1=p.1:=by rw[D]
    have yC:(V q[j].j).2=p.2.2.Code:=by rw[D]
    by_cases o:p.2.2.Code=0
    .rw[p5 (v!.2 o),yC,p5 (v!.2 o)];have v:-1000000000000000<=p.1.N/\p.1.N<=1000000000000000:=by
      simp_all
     have y:=aI6 (n:=p.1.N) (k:=q[j].To-q[j].j) (B:=1000000000000000) v U;rw[show((1000000000000000:Nat):Int)=1000000000000000 from rfl]at y;rw[g! (n:=q[j].To-q[j].j) U U,g! (n:=p.1.N*(q[j].To-q[j].j)) U U,g! U U,g! U U,pa U,O',n! hj];simp only[pab,zK,PQ,yN];rfl
    .rw[J o,yC,J o];rfl
  simp_all[ee]
 have s:∀{ρ:Type} (g:Int->ρ),ff (λj=>(match q[j]? with|some p=>if¬(V p.j).2=0 then M (V p.j).2 else q6|none=>(q6:Option Int)).map g) q.length=(ff (λj=>match q[j]? with|some p=>if¬(V p.j).2=0 then M (V p.j).2 else q6|none=>(q6:Option Int)) q.length).map g:=λg=>DJ g;unfold Hj OD;rw[e1,s];obtain⟨d1,d2⟩:=Dr hq
 cases hf:ff (λj=>match q[j]? with|some p=>if¬(V p.j).2=0 then M (V p.j).2 else q6|none=>(q6:Option Int)) q.length with
 |some e=>rfl
 |none=>
  have hw:=f (Xa.1 hf);simp only[Ead,VJ,a!];rw[Ah];simp only[a!];have hr:=H.cf.r
  grind[OQ]
noncomputable def AP(l:cb) (h:mu) (rec:Int):List Int:=Vd ((Vd (u! (BH rec h.ab))).filter Ij++(Vd (u! (Wy l.Tables++Uy l.e))).filter Ij)
theorem bq1(rec:Int) (hl:E! l) (hh:h.ab.length<=64):fb l h rec=M (AP l h rec)/\(AP l h rec).Pairwise (·<·)/\(AP l h rec).length<=65536/\
 ∃a b,Ue h.ab rec=M a/\Se l=M b/\a.length<=1048576/\b.length<=1048576/\∀x,x∈AP l h rec↔x∈a\/x∈b:=by
 have k1:=iz (l:=h.ab) rec U;have k2:=Yu hl;obtain⟨ra,a1,a2,a3⟩:=gG (l:=h.ab) rec U;obtain⟨rb,b1,b2,b3⟩:=fG hl;have n1:=Ο Ij (Vd (u! (BH rec h.ab)));have n2:=Vw (u! (BH rec h.ab));have n3:=Xt (BH rec h.ab);have n4:=nM rec h.ab;have m1:=Ο Ij (Vd (u! (Wy l.Tables++Uy l.e)));have m2:=Vw (u! (Wy l.Tables++Uy l.e));have m3:=Xt (Wy l.Tables++Uy l.e);have m4:=xA hl.t;have m5:=sA hl.s;have m6:=hl.nt;have m7:=hl.ns;rw[Χ]at m3;have hcd:fb l h rec=M (AP l h rec):=by
  grind[fb,AP,lst,IU,JW]
 grind[AP,Mf]
noncomputable def dT(l:cb) (h:mu) (m rec:Int):List hO:=qy (Ua m).1.To (Ua m).1.j ((AP l h rec).filter (C! (Ua m).1))
theorem fW(hm:(Ua m).2=0) (hl:E! l) (a:h.ab.length<=64):Lw (Ua m).1.j (dT l h m rec) (Ua m).1.To/\(dT l h m rec).length<=65537:=by
 obtain⟨-,h2,h3,-⟩:=bq1 (l:=l) (h:=h) rec hl a;have hr:=ux hm
 grind[C!,dT,lE,WJ]
theorem be9(hm:(Ua m).2=0) (hl:E! l) (d:h.ab.length<=64):(dT l h m rec).length<=65536:=by
 obtain⟨c,h2⟩:=fW (rec:=rec) hm hl d;have hr:=ux hm;have:∀{a b:Int} {q:List hO},Lw a q b->(a00 q:Int)<=b-a:=by
  intro a b q
  induction q generalizing a with
  |nil=>intro h;simp only[Lw]at h;simp_all
  |cons p q ih=>
   intro h;obtain⟨e1,e2,e3⟩:=h
   grind
 have h4:=this c;have h5:(Ua m).1.To-(Ua m).1.j<=31:=by
  unfold Ua at hm⊢;split at hm
  .rename_i hc;rw[J hc];have:=rf (y:=1900+((m.toNat / 12:Nat):Int)) (m:=((m.toNat % 12:Nat):Int)+1)
   grind
  omega
 omega
theorem VY(hm:(Ua m).2=0):Ou m=M ((Ua m).1.To-(Ua m).1.j)/\(Ua m).1.j<(Ua m).1.To/\(Ua m).1.To-(Ua m).1.j<=31/\0<=m/\m<=3599:=by
 have hr:=ux hm;unfold Ua at hm;split at hm
 case isFalse=>omega
 rename_i hc;have hd:=rf (y:=1900+((m.toNat / 12:Nat):Int)) (m:=((m.toNat % 12:Nat):Int)+1);have e:(Ua m).1.To-(Ua m).1.j=vn (1900+((m.toNat / 12:Nat):Int)) (((m.toNat % 12:Nat):Int)+1):=by
  grind[Ua]
 refine⟨?_,hr.2.1,U,hc.1,hc.2⟩;obtain⟨e1,e2⟩:=AK hc.1 hc.2;unfold Ou;rw[BG,a!,p5 l4,e1,e2,mc U U U,e];rfl
theorem HM(hl:m? l) (few:∀x∈l.e,a00 x.f<=64) (f:h.ab.length<=1048576) (hc:c.av.ar.length<=1048576) :
 ∃b,Wc l h c=M b/\Yo l h c=M b/\(b=a35->∃i,Ctx l h c i):=by
 obtain⟨n,g,e⟩:=X6 hl hc h.aj;unfold Wc Yo;rw[g,e,kK l h hl.ns f,ji l h hl.ns];simp only[a!];by_cases a:n=0
 .rw[p5 (v!.2 a),J a];refine⟨_,rfl,rfl,λhb=>?_⟩;subst a;obtain⟨i,hi,d⟩:=W6 hl e;exact⟨i,hl,few,d,l4,hi⟩
 simp_all
theorem Q3(hm:(Ua m).2=0):(Ua m).1.j<(Ua m).1.To/\(Ua m).1.To-(Ua m).1.j<=31/\0<=m/\m<=3599:=by
 grind[Ua,vn]
theorem GM(hl:m? l) (few:∀x∈l.e,a00 x.f<=64) (hh:h.ab.length<=1048576) (hc:c.av.ar.length<=1048576) :
 ∃b,Wc l h c=M b/\(b=a35->∃i,Ctx l h c i):=by
 obtain⟨n,e⟩:=JU hl hc h.aj;unfold Wc;rw[e,ji l h hl.ns];simp only[a!];by_cases d:n=0
 .rw[p5 (v!.2 d)];refine⟨_,rfl,λhb=>?_⟩;subst d;obtain⟨i,hi,a⟩:=as3 hl e;exact⟨i,hl,few,a,l4,hi⟩
 simp_all
noncomputable def QD(l:cb) (h:mu) (c:ma) (m rec:Int):ka:=
 if¬(Ua m).2=0 then⟨m,0,3⟩else if(Wc l h c).getD a36=a36 then⟨m,0,1⟩else
 ⟨m,(OD (Pb l h.aj.toNat h c.u rec) c.aw (dT l h m rec)).1,(OD (Pb l h.aj.toNat h c.u rec) c.aw (dT l h m rec)).2⟩
theorem HP(hl:m? l) (d:E! l) (e:h.ab.length<=64) (hc:c.av.ar.length<=1048576) (m rec:Int) :
 iE l h c m rec=M (QD l h c m rec)/\lA l h c m rec=M (QD l h c m rec):=by
 obtain⟨b,f,g,j⟩:=HM hl (λx hx=>P' (d.s x hx) o4) (h:=h) U hc;unfold iE lA QD;rw[wG,a!,fQ];by_cases hm:(Ua m).2=0
 case neg=>
  have:m<0\/3599<m:=by
   grind[Ua]
  simp_all
 obtain⟨q1,u,v,q4,q5⟩:=VY hm;rw[p5 (v!.2 hm),p5 (v!.2 hm),u4 (p:=m<0\/3599<m) U,p5 (show¬(a36=a35)from λh=>nomatch h),f,g,a!,a!,Τ]
 cases b with
 |false=>simp
 |true=>
  obtain⟨i,H⟩:=j rfl;rw[p5 l5,p5 l5,p5 l5];obtain⟨d1,d2,k,a,bb,n,o,q,r,t⟩:=bq1 (l:=l) (h:=h) rec d e;have hr:=ux hm;obtain⟨c1,-⟩:=fW (rec:=rec) hm d e;obtain⟨e1,e2⟩:=nU H c1 ⟨u,v⟩ (be9 hm d e) rec m;have hi:h.aj.toNat=i:=by have:=H.sc;omega
  rw[d1,n,o];simp only[a!];rw[jE d2 k hr,a!];unfold Vj;rw[jQ,a!,MO d2 q r t hr,a!,q1];rw[show qy (Ua m).1.To (Ua m).1.j ((AP l h rec).filter (C! (Ua m).1))=dT l h m rec from rfl]
  grind
theorem cp1(rec:Int) (hl:E! l) (hh:h.ab.length<=64):fb l h rec=M (AP l h rec)/\(AP l h rec).Pairwise (·<·)/\(AP l h rec).length<=65536/\
 ∀x,x∈AP l h rec↔(x∈u! (BH rec h.ab)/\Ij x=a35)\/(x∈u! (Wy l.Tables++Uy l.e)/\Ij x=a35):=by
 have k1:=iz (l:=h.ab) rec U;have k2:=Yu hl;have n1:=Ο Ij (Vd (u! (BH rec h.ab)));have n2:=Vw (u! (BH rec h.ab));have n3:=Xt (BH rec h.ab);have n4:=nM rec h.ab;have m1:=Ο Ij (Vd (u! (Wy l.Tables++Uy l.e)));have m2:=Vw (u! (Wy l.Tables++Uy l.e));have m3:=Xt (Wy l.Tables++Uy l.e);have m4:=xA hl.t;have m5:=sA hl.s;have m6:=hl.nt;have m7:=hl.ns;rw[Χ]at m3;have hcd:fb l h rec=M (AP l h rec):=by
  grind[fb,AP,lst,IU,JW]
 grind[AP,Mf]
theorem XJ(hm:(Ua m).2=0) (hl:E! l) (a:h.ab.length<=64):Lw (Ua m).1.j (dT l h m rec) (Ua m).1.To/\(dT l h m rec).length<=65537:=by
 obtain⟨-,h2,h3,-⟩:=cp1 (l:=l) (h:=h) rec hl a;have hr:=ux hm
 grind[C!,dT,lE,WJ]
theorem aG8(hm:(Ua m).2=0) (hl:E! l) (d:h.ab.length<=64):(dT l h m rec).length<=65536:=by
 obtain⟨c,h2⟩:=XJ (rec:=rec) hm hl d;have hr:=ux hm;have:∀{a b:Int} {q:List hO},Lw a q b->(a00 q:Int)<=b-a:=by
  intro a b q
  induction q generalizing a with
  |nil=>intro h;simp only[Lw]at h;simp_all
  |cons p q ih=>
   intro h;obtain⟨e1,e2,e3⟩:=h
   grind
 have h4:=this c;have h5:(Ua m).1.To-(Ua m).1.j<=31:=by
  unfold Ua at hm⊢;split at hm
  .rename_i hc;rw[J hc];have:=rf (y:=1900+((m.toNat / 12:Nat):Int)) (m:=((m.toNat % 12:Nat):Int)+1)
   grind
  omega
 omega
theorem zR:(Ua m).2=0↔0<=m/\m<=3599:=by
 grind[Ua]
theorem fU(hl:m? l) (d:E! l) (g:h.ab.length<=64) (hc:c.av.ar.length<=1048576) (hab:0<=a/\a<=b/\b<=3600/\b-a<=120) (rec:Int) :
 Zd l h c a b rec=M ((o? (b-a).toNat).map λ(j:Nat)=>QD l h c (a+j) rec):=by
 obtain⟨v,o,t⟩:=GM hl (λx hx=>P' (d.s x hx) o4) (h:=h) U hc;obtain⟨n,hn⟩:∃n,(b-a).toNat=n:=⟨_,rfl⟩;unfold Zd;rw[J,J,J,g! (n:=b-a) U U,a!,p5 l4];have k:fD 24 (ka.mk 0 0 0) 0 (b-a)=M []:=by
  grind[fD]
 rw[k,a!,o,a!];obtain⟨d1,d2,p,-⟩:=cp1 (l:=l) (h:=h) rec d g;have f:(if v=a35 then(fb l h rec).bind λu=>M (a35,u)else M (a36,([]:List Int)))=M (v,if v=a35 then AP l h rec else []):=by
  grind
 rw[f,a!];dsimp only;have hlp:ca (oh l h c b rec (if v=a35 then AP l h rec else [])) (([]:List ka),v,a)=M (.inl ((o? n).map λ(j:Nat)=>QD l h c (a+j) rec)):=by
  refine Uc (λj=>((o? j).map λ(j:Nat)=>QD l h c (a+j) rec,v,a+(j:Int))) n _ (λj hj=>?_) ?_ l5
  .have hm:(Ua (a+j)).2=0:=zR.2 U;have hr:=ux hm;obtain⟨q,r,q4,q5⟩:=Q3 hm;unfold oh;dsimp only;rw[J,wG,a!,p5 (v!.2 hm)];have hw:aa .i64 (a+(j:Int)+1)=a+((j+1:Nat):Int):=by grind[g!]
   have hone:(if v=a35 then(cp (Ua (a+j)).1 (if v=a35 then AP l h rec else [])).bind λm=>(Hj l h c m rec).bind λe=>M (a35,e.1,e.2)else M (a36,(0:Int),(1:Int)))=M (v,(QD l h c (a+j) rec).ad,(QD l h c (a+j) rec).Code):=by
    unfold QD;rw[p5 (v!.2 hm),o,Τ]
    cases v with
    |false=>rfl
    |true=>
     obtain⟨i,H⟩:=t rfl;have hi:h.aj.toNat=i:=by have:=H.sc;omega
     obtain⟨c1,-⟩:=XJ (rec:=rec) hm d g;have e1:=av2 H c1 ⟨q,r⟩ (aG8 hm d g) rec;rw[J rfl,J rfl,p5 l5,jE d2 p hr,a!,hi];rw[show qy (Ua (a+j)).1.To (Ua (a+j)).1.j ((AP l h rec).filter (C! (Ua (a+j)).1))=dT l h (a+j) rec from rfl,e1];rfl
   grind[QD,me,nac]
  grind[oh]
 simp_all
theorem pJ:(QD l h c m rec).q=m:=by
 grind[QD]
theorem OU{w D mode L j6:Int}(hD:1<=D/\D<=31) (hm:0<=mode/\mode<=5) (hw:-31000000000000000<=w/\w<=31000000000000000) (a:L*D<=w) (hU:w<=j6*D):L<=(OQ w D mode).1/\(OQ w D mode).1<=j6:=by
 have e:(OQ w D mode).1=vM mode (w / D) (w % D) D:=by
  obtain⟨d,rfl⟩:=W! (show 0<=D by omega);unfold OQ;rw[p5 (v!.2 hm),p5,p5]
  grind[nA]
 rw[e];have hr:=gZ mode (w / D) (w % D) D;have hr0:=Int.emod_nonneg w (show D≠0 by omega);have hdm:=Int.mul_ediv_add_emod w D;constructor
 .have:L<=w / D:=(Int.le_ediv_iff_mul_le U).2 a;omega
 .have hq:w / D<=j6:=by
   have:=Int.ediv_le_ediv (show 0<D by omega) hU
   grind[Int.mul_ediv_cancel]
  rcases Int.lt_or_eq_of_le hq with h|h
  .omega
  .have h0:w % D=0:=by
    grind
   unfold vM;rw[p5 (by unfold K5;omega)];omega
theorem gJ{v:Int->Int}{L j6:Int}:∀{a b:Int}{l:List hO},Lw a l b->(∀p∈l,L<=v p.j/\v p.j<=j6)->L*Hr l<=Cv v l/\Cv v l<=j6*Hr l
 |a,b,[],h,hv=>by simp[Cv,Hr]
 |a,b,p::l,h,hv=>by
  obtain⟨h1,h2,d⟩:=h;have e:=gJ d λq hq=>hv q o0;have c:=hv p l5;have m1:=kac c.1 (show 0<=p.To-p.j by omega);have m2:=kac c.2 (show 0<=p.To-p.j by omega);simp only[Cv,Hr,List.map_cons,List.sum_cons]at e⊢
  grind
theorem bs2{l:List hO}(h:(OD v r l).2=0):(∀p∈l,(v p.j).2=0)/\(OD v r l).1=max (OQ (Cv (λd=>(v d).1.N) l) (Hr l) r).1 0:=by
 unfold OD at h⊢;split at h
 .grind[Oa]
 .rename_i hf;refine⟨λp a=>?_,rfl⟩;obtain⟨k,hk,rfl⟩:=H' a
  simp_all[Xa]
theorem aR4{l:List hO}(h:(OD v r l).2≠0):(OD v r l).1=0:=by
 unfold OD at h⊢
 grind
theorem au9(a:(QD l h c m rec).Code=0):(Ua m).2=0/\(Wc l h c).getD a36=a35/\QD l h c m rec=⟨m,(OD (Pb l h.aj.toNat h c.u rec) c.aw (dT l h m rec)).1,(OD (Pb l h.aj.toNat h c.u rec) c.aw (dT l h m rec)).2⟩:=by
 unfold QD at a⊢
 grind
end Go.Proofs.Dev
namespace Go.Tm
variable {l:List Int}{k i j n:Nat}
def Iw(l:List Int) (k:Nat):Int:=l.getD k 0
def Υ(l:List Int) (i j:Nat):List Int:=(l.set i (Iw l j)).set j (Iw l i)
def Hp(l:List Int) (n:Nat):Prop:=∀k,0<k->k<n->Iw l ((k-1) / 2)<=Iw l k
def HpU(l:List Int) (j:Nat):Prop:=(∀k,0<k->k<a00 l->k≠j->Iw l ((k-1) / 2)<=Iw l k)/\(∀k,0<j->0<k->k<a00 l->(k-1) / 2=j->Iw l ((j-1) / 2)<=Iw l k)
def HpD(l:List Int) (n i:Nat):Prop:=(∀k,0<k->k<n->(k-1) / 2≠i->Iw l ((k-1) / 2)<=Iw l k)/\(∀k,0<i->0<k->k<n->(k-1) / 2=i->Iw l ((i-1) / 2)<=Iw l k)
theorem En(h:k<a00 l):Iw l k=l[k]:=by grind[Iw]
theorem VI:(Υ l i j).length=a00 l:=by simp[Υ]
theorem Wq(hi:i<a00 l) (hj:j<a00 l):Iw (Υ l i j) k=if k=j then Iw l i else if k=i then Iw l j else Iw l k:=by
 grind[Υ,Iw]
theorem lF(hi:i<a00 l) (hj:j<a00 l):(Υ l i j).Perm l:=by
 grind[Υ,En]
theorem ab9(h:HpU l j) (hj:j=0\/Iw l ((j-1) / 2)<=Iw l j):Hp l l.length:=by
 intro k a b;by_cases hk:k=j
 .grind
 .exact h.1 k a b hk
theorem bv1(h:HpU l j) (hj:0<j) (hl:j<a00 l) (hlt:Iw l j<Iw l ((j-1) / 2)):HpU (Υ l ((j-1) / 2) j) ((j-1) / 2):=by
 have c:(j-1) / 2<a00 l:=U
 refine⟨λk b a h2=>?_,λk b a h2 h3=>?_⟩
 .rw[VI]at a;rw[Wq c hl,Wq c hl];by_cases hk:k=j
  .omega
  .rw[p5 hk,p5 h2];by_cases d:(k-1) / 2=j
   .rw[J d];exact h.2 k hj b a d
   .rw[p5 d];by_cases f:(k-1) / 2=(j-1) / 2
    .rw[J f];have:=h.1 k b a hk
     grind
    .rw[p5 f];exact h.1 k b a hk
 .rw[VI]at h2;rw[Wq c hl,Wq c hl];have e:Iw l (((j-1) / 2-1) / 2)<=Iw l ((j-1) / 2):=h.1 _ b c U;rw[p5,p5];by_cases hk:k=j
  .omega
  .rw[p5 hk,p5];have:=h.1 k a h2 hk
   grind
theorem be8{x:Int}(h:Hp l l.length):HpU (l++[x]) l.length:=by
 refine⟨λk a b h2=>?_,λk a b h2 h3=>?_⟩
 .have hk:k<a00 l:=o0
  have e:∀q,q<a00 l->Iw (l++[x]) q=Iw l q:=λq hq=>by grind[En]
  rw[e _ U,e _ hk];exact h k a hk
 grind
def CmH(l:List Int) (n i j:Nat):Prop:=0<j/\j<n/\(j-1) / 2=i/\∀k,0<k->k<n->(k-1) / 2=i->Iw l j<=Iw l k
theorem co9(a:2*i+1<n) (h:2*i+2<n->Iw l (2*i+1)<=Iw l (2*i+2)):CmH l n i (2*i+1):=by
 refine⟨U,a,U,λk h0 h2 h3=>?_⟩
 grind
theorem cA7(a:2*i+2<n) (h:Iw l (2*i+2)<Iw l (2*i+1)):CmH l n i (2*i+2):=by
 refine⟨U,a,U,λk h0 h2 h3=>?_⟩
 grind
theorem q7(h:HpD l n i) (hn:n<=2*i+1):Hp l n:=λk a b=>h.1 k a b U
theorem dN(h:HpD l n i) (hc:CmH l n i j) (hle:Iw l i<=Iw l j):Hp l n:=by
 intro k a b;by_cases hk:(k-1) / 2=i
 .have:=hc.2.2.2 k a b hk
  grind
 .exact h.1 k a b hk
theorem wS(h:HpD l n i) (hn:n<=a00 l) (hc:CmH l n i j) (hlt:Iw l j<Iw l i):HpD (Υ l i j) n j:=by
 obtain⟨c0,c1,c2,c3⟩:=hc;have hi:i<a00 l:=U
 have hj:j<a00 l:=U
 refine⟨λk b c h2=>?_,λk b c h2 h3=>?_⟩
 .rw[Wq hi hj,Wq hi hj,p5 h2];by_cases hk:k=j
  .omega
  .rw[p5 hk];by_cases a:k=i
   .subst a;rw[p5,J rfl];exact h.2 j b c0 c1 c2
   .rw[p5 a];by_cases d:(k-1) / 2=i
    .simp_all
    .rw[p5 d];exact h.1 k b c d
 .rw[Wq hi hj,Wq hi hj,p5,J c2,p5,p5];have:=h.1 k c h2 U
  simp_all
theorem by6(h:Hp l l.length) (hl:l.length=n+1):HpD (Υ l 0 n) n 0:=by
 refine⟨λk a h1 h2=>?_,λk a=>absurd a U⟩;rw[Wq U U,Wq U U,p5,p5 h2,p5,p5];exact h k a U
theorem bl7(h:Hp l n):∀k,k<n->Iw l 0<=Iw l k:=by
 intro k
 induction k using Nat.strongRecOn with
 |ind k a=>
  intro hk;by_cases h0:k=0
  .simp_all
  .have h1:=a ((k-1) / 2) U U;have h2:=h k U hk;omega
theorem aK8(h:Hp l n) (hn:n<=a00 l):Hp (l.take n) (l.take n).length:=by
 intro k a b;rw[bac]at b;have e:∀q,q<n->Iw (l.take n) q=Iw l q:=λq hq=>by
  grind[En]
 rw[e _ U,e _ U];exact h k a U
end Go.Tm
namespace Go.Proofs.Dev
open Go Go.Tm
variable {d i j k e:Nat}{x:Int}
structure GOk (g:List (List Int)):Prop where
 len:g.length<=1048576
 inr:∀l∈g,∀e∈l,0<=e/\e<a00 g
 nd:∀l∈g,l.Nodup
theorem TJ:∀{n:Nat}{l:List Int},l.Nodup->(∀x∈l,0<=x/\x<(n:Int))->l.length<=n
 |0,l,_,h=>by
  cases l with
  |nil=>simp
  |cons x l=>grind[kad]
 |n+1,l,hd,h=>by
  by_cases hm:(n:Int)∈l
  .have h1:=TJ (n:=n) (l:=l.erase n) (hd.erase _) (λx hx=>by
    grind)
   simp_all
  .have:=TJ (n:=n) (l:=l) hd (λx hx=>by
    grind)
   omega
def Jj(g:List (List Int)) (i d:Nat):List Int:=((o? i).filter λe=>(g.getD e []).contains (d:Int)).map λ(e:Nat)=>(e:Int)
def Uw(g:List (List Int)) (i j d:Nat):List Int:=Jj g i d++if((g.getD i []).take j).contains (d:Int)then [(i:Int)]else []
theorem l7{g:List (List Int)}:Jj g 0 d=[]:=rfl
theorem n7{g:List (List Int)}:Uw g i 0 d=Jj g i d:=by simp[Uw]
theorem i7{g:List (List Int)}:Jj g (i+1) d=Uw g i (g.getD i []).length d:=by
 grind[Jj,Uw,nac]
theorem MQ{g:List (List Int)}(hj:j<(g.getD i []).length) (hnd:(g.getD i []).Nodup):Uw g i (j+1) d=if(g.getD i [])[j]=(d:Int)then Uw g i j d++[(i:Int)]else Uw g i j d:=by
 unfold Uw;rw[O',n! hj,pab];by_cases h:(g.getD i [])[j]=(d:Int)
 .rw[J h];have h1:((g.getD i []).take j++[(g.getD i [])[j]]).contains (d:Int)=a35:=Ξ.2 (Β.2 (.inr l4));have h2:((g.getD i []).take j).contains (d:Int)=a36:=by
   rw[←Kac,Ξ]
   grind[H',Dab]
  simp_all
 grind
theorem aN{g:List (List Int)}:(Jj g i d).length<=i:=by
 grind[Jj]
theorem ar7{g:List (List Int)}:(Uw g i j d).length<=i+1:=by
 grind[Uw,aN]
def fZ(g:List (List Int)) (i:Nat):List Int:=((o? i).filter λe=>(g.getD e []).isEmpty).map λ(e:Nat)=>(e:Int)
theorem jW{g:List (List Int)}:fZ g (i+1)=if(g.getD i [])=[]then fZ g i++[(i:Int)]else fZ g i:=by
 grind[fZ,nac]
theorem aF2{g:List (List Int)}:(fZ g i).length<=i:=by
 grind[fZ]
def gI(g:List (List Int)) (i:Nat):List Int:=(o? g.length).map λe=>if e<i then((g.getD e []).length:Int)else 0
theorem w8{g:List (List Int)}:gI g 0=l! g.length 0:=by
 unfold gI;apply Qab<;>simp
theorem v8{g:List (List Int)}(hi:i<a00 g):(gI g i).set i ((g.getD i []).length:Int)=gI g (i+1):=by
 unfold gI;apply Qab
 all_goals grind
def vL(g:List (List Int)) (out:List Int) (e:Nat):Int:=(((g.getD e []).filter λd=>!out.contains d).length:Int)
def vV(g:List (List Int)) (out:List Int):List Int:=(o? g.length).map λe=>vL g out e
def F4(g:List (List Int)) (out:List Int):List Int:=((o? g.length).filter (dG g out)).map λ(d:Nat)=>(d:Int)
structure J2 (g:List (List Int)) (out l:List Int):Prop where
 nd:out.Nodup
 inr:∀x∈out,0<=x/\x<(a00 g:Int)
 clo:∀d:Nat,(d:Int)∈out->∀e∈g.getD d [],e∈out
 perm:l.Perm (F4 g out)
 ord:Nx g (a00 g-out.length) out=sx g
variable {g:List (List Int)}{out l:List Int}
theorem sM:x∈F4 g out↔∃d:Nat,x=d/\d<a00 g/\(d:Int)∉out/\∀e∈g.getD d [],e∈out:=by
 unfold F4;rw[X'];constructor
 .rintro⟨d,hd,rfl⟩;rw[mac,uac]at hd;obtain⟨a,h2⟩:=hd;unfold dG at h2
  grind
 .rintro⟨d,rfl,a,h2,h3⟩;refine⟨d,?_,rfl⟩
  simp_all[dG]
theorem ah0:(F4 g out).Nodup:=by
 grind[F4,Dae,mad]
theorem ct2(h:l.Perm (fZ g g.length)):J2 g [] l:=by
 refine⟨List.nodup_nil,λx h=>(Yad h).elim,λd h=>(Yad h).elim,?_,by rw[List.length_nil,Nat.sub_zero];rfl⟩;have:fZ g g.length=F4 g []:=by
  unfold fZ F4;congr 1;refine Qad λd _=>?_;unfold dG;cases hq:g.getD d []<;>simp
 simp_all
theorem bk7:gI g g.length=vV g []:=by
 unfold gI vV;refine gac λe he=>?_;rw[J (uac.1 he)]
 grind[vL,List.filter_eq_self]
theorem bk4(h:J2 g out []):sx g=if out.length<a00 g then([],9)else(out,0):=by
 rw[←h.ord];have hl:out.length<=a00 g:=TJ h.nd h.inr;have he:F4 g out=[]:=List.Perm.eq_nil (h.perm.symm);split
 .rename_i hlt;obtain⟨k,hk⟩:∃k,a00 g-out.length=k+1:=⟨a00 g-out.length-1,U⟩;rw[hk];unfold Nx;have hf:(o? g.length).find? (dG g out)=q6:=by
   rw[List.find?_eq_none];intro d hd hr;have:(d:Int)∈F4 g out:=by
    unfold F4
    grind
   simp_all
  rw[hf]
 .rw[show g.length-out.length=0 by omega];rfl
def VD(g:List (List Int)) (out:List Int) (d k:Nat):List Int:=(o? g.length).map λe=>vL g out e-if((Jj g g.length d).take k).contains (e:Int)then 1 else 0
def pI(g:List (List Int)) (out:List Int) (d k:Nat):List Int:=((Jj g g.length d).take k).filter λe=>vL g out e.toNat==1
theorem JE:x∈Jj g g.length d↔∃e:Nat,x=e/\e<a00 g/\(d:Int)∈g.getD e []:=by
 unfold Jj
 grind
theorem Z0:(Jj g g.length d).Nodup:=by
 grind[Jj,Dae,mad]
theorem bk8:VD g out d 0=vV g out:=by
 grind[VD,vV]
theorem ad8(hnd:l.Nodup) (hk:k<a00 l):(l.take k).contains l[k]=a36:=by
 rw[←Kac,Ξ]
 grind[H',Dab]
theorem an9(hk:k<(Jj g g.length d).length) (he:(Jj g g.length d)[k]=(e:Int)) (hl:e<a00 g):(VD g out d k)[e]?=M (vL g out e):=by
 grind[VD,ad8,Z0]
theorem dR(hk:k<(Jj g g.length d).length) (he:(Jj g g.length d)[k]=(e:Int)):(VD g out d k).set e (vL g out e-1)=VD g out d (k+1):=by
 unfold VD;apply Qab
 .simp
 .intro q h1 h2;rw[List.getElem_set];simp only[Mac,xae];rw[O',n! hk,pab,he]
  grind
theorem bg7:pI g out d 0=[]:=rfl
theorem qR(hk:k<(Jj g g.length d).length) (he:(Jj g g.length d)[k]=(e:Int)):pI g out d (k+1)=if vL g out e=1 then pI g out d k++[(e:Int)]else pI g out d k:=by
 unfold pI;rw[O',n! hk,pab,he,ι]
 grind
theorem al2:(pI g out d k).length<=a00 g:=by
 grind[pI,aN]
theorem bl9(h:e<a00 g):g.getD e []∈g:=by
 simp_all
theorem RM(b:GOk g) (he:e<a00 g) (hd:(d:Int)∉out):vL g (out++[(d:Int)]) e=vL g out e-if(Jj g g.length d).contains (e:Int)then 1 else 0:=by
 unfold vL;have hn:=b.nd _ (bl9 he);have hc:(Jj g g.length d).contains (e:Int)=(g.getD e []).contains (d:Int):=by
  rw[Hac,Ξ,Ξ,JE]
  grind
 rw[hc];generalize g.getD e []=l at hn
 induction l with
 |nil=>rfl
 |cons a l ih=>
  grind
theorem as8(h:∀q∈g.getD e [],q∈out):vL g out e=0:=by
 grind[vL,Bac]
theorem R6(h:vL g out e=0):∀q∈g.getD e [],q∈out:=by
 grind[vL,Ε,Bac]
theorem bk3(A:GOk g) {l':List Int}(h:J2 g out l) (C:(x::l').Perm l) (hmin:∀y∈l',x<=y) :
 ∃d:Nat,x=d/\d<a00 g/\VD g out d (Jj g g.length d).length=vV g (out++[x])/\out.length<a00 g/\∀n,n.Perm (l'++pI g out d (Jj g g.length d).length)->J2 g (out++[x]) n:=by
 have s:=C.trans h.perm;obtain⟨d,rfl,u,m,hde⟩:=sM.1 (s.mem_iff.1 (kad ..));have i:(out++[(d:Int)]).Nodup:=by
  rw[Fae];refine⟨h.nd,l5,λa ha b hb=>?_⟩
  grind
 have f:∀x∈out++[(d:Int)],0<=x/\x<(a00 g:Int):=λx hx=>by
  rcases Β.1 hx with c|c
  .exact h.inr x c
  simp_all
 have r:out.length<a00 g:=by
  have:=TJ i f
  grind
 have w:(d:Int)∉l'/\l'.Nodup:=List.nodup_cons.1 ((s.nodup_iff).2 ah0);refine⟨d,rfl,u,?_,r,λn p=>⟨i,f,?_,?_,?_⟩⟩
 .simp_all[VD,vV,RM]
 .intro q hq e he;rcases Β.1 hq with c|c
  .exact lae _ (h.clo q c e he)
  grind
 .refine p.trans ?_;have v:(pI g out d (Jj g g.length d).length).Nodup:=by
   grind[pI,Z0]
  have j:∀y,y∈pI g out d (Jj g g.length d).length↔∃e:Nat,y=e/\e<a00 g/\(d:Int)∈g.getD e []/\vL g out e=1:=by
   intro y;unfold pI;rw[η,mac,JE]
   grind
  have D:∀y,y∈l'↔y∈F4 g out/\y≠d:=by
   grind
  rw[List.perm_ext_iff_of_nodup ?_ ah0]
  .intro y;rw[Β,D,j,sM,sM];constructor
   .rintro(⟨⟨e,rfl,c,h2,o⟩,B⟩|⟨e,rfl,c,h2,o⟩)
    .grind
    .refine⟨e,rfl,c,λhm=>?_,?_⟩
     .rcases Β.1 hm with t|t
      .exact m (h.clo e t d h2)
      grind
     .refine R6 ?_;rw[RM A c m,J (Ξ.2 (JE.2 ⟨e,rfl,c,h2⟩)),o];rfl
   .rintro⟨e,rfl,c,h2,o⟩;have B:(e:Int)∉out:=λhm=>h2 (lae _ hm);have t:(e:Int)≠d:=λhm=>h2 (List.mem_append_right _ (ψ.2 hm));by_cases z:(d:Int)∈g.getD e []
    .refine .inr ⟨e,rfl,c,z,?_⟩;have:=as8 o;rw[RM A c m,J (Ξ.2 (JE.2 ⟨e,rfl,c,z⟩))]at this;omega
    grind
  .rw[Fae];refine⟨w.2,v,λa ha b hb e=>?_⟩;subst e;obtain⟨e,rfl,c,h2,o⟩:=(j a).1 hb
   grind[sM]
 .rw[←h.ord];obtain⟨k,hk⟩:∃k,a00 g-out.length=k+1:=⟨a00 g-out.length-1,U⟩;rw[hk,Χ,mab,show g.length-(a00 out+1)=k by omega];have hf:(o? g.length).find? (dG g out)=M d:=by
   have hr:∀e:Nat,e<a00 g->(dG g out e=a35↔(e:Int)∈F4 g out):=by
    intro e he;unfold F4
    grind
   rw[List.find?_range_eq_some]
   grind
  rw[Nx,hf]
end Go.Proofs.Dev
set_option maxRecDepth 100000
namespace Go.Proofs.Dev
open Go Go.Tm
noncomputable def Sj(j:List Int):(List Bool×List Int×Int)->Option (Ex (List Bool×List Int×Int) (List Bool×List Int) Unit):=λ(c,f,a)=>
 if a<(a00 j:Int)then
  b? (
   (c! j a).bind λb=>
   (c! c b).bind λg=>
   if g=a36 then
    (put c b a35).bind λh=>
    (app 8 f ([b])).bind λi=>
    M (h,i)
   else
   M (c,f)) λ(d,e)=>
  M (i! (d,e,(aa .i64 (a+1))))
 else
 M (i? (c,f))
noncomputable def ph(t0:(List (List Int))):(List Bool×List Int)->Option (Ex (List Bool×List Int) (List Bool) Unit):=λ(s2,c)=>
 if 0<(a00 c:Int)then
  (c! c 0).bind λd=>
  (pK c 1).bind λe=>
  (c! t0 d).bind λf=>
  (ca (Sj f) (s2,e,0)).bind λy=>match y with
  |.inr _=>q6
  |.inl (a,b)=>
  M (i! (a,b))
 else
 M (i? s2)
noncomputable def Tj(c:List Bool):(List Int×Int)->Option (Ex (List Int×Int) (List Int) Unit):=λ(b,a)=>
 if a<(a00 c:Int)then
  b? (
   (c! c a).bind λe=>
   if e=a35 then
    (app 8 b ([a])).bind λf=>
    M f
   else
   M b) λd=>
  M (i! (d,(aa .i64 (a+1))))
 else
 M (i? b)
noncomputable def Gx(t0:(List (List Int))) (t1:Int):Option (List Int):=
 (fD 1 a36 (a00 t0:Int) (a00 t0:Int)).bind λc=>
 (ca (ph t0) (c,[t1])).bind λy=>match y with
 |.inr _=>q6
 |.inl a=>
 (ca (Tj a) (([]:List Int),0)).bind λy=>match y with
 |.inr _=>q6
 |.inl b=>
 M b
def C?(p:List Bool×List Int) (e:Int):List Bool×List Int:=if p.1[e.toNat]?=M a35 then p else(p.1.set e.toNat a35,p.2++[e])
def Sn(s:List Bool) (b:Int):Prop:=s[b.toNat]?=M a35
instance (s:List Bool) (b:Int):Decidable (Sn s b):=by unfold Sn;infer_instance
def cF(s:List Bool):Nat:=s.count a36
theorem au3:∀{s:List Bool}{i:Nat},s[i]?=M a36->cF (s.set i a35)+1=cF s
 |[],i,h=>by simp at h
 |b::s,0,h=>by simp at h;subst h;simp[cF]
 |b::s,i+1,h=>by
  have:=au3 (s:=s) (i:=i) (by simpa using h);unfold cF at this⊢;simp only[List.set_cons_succ,List.count_cons];omega
def cp2(s:List Bool):cF s<=a00 s:=List.count_le_length
structure Ok (n:Nat) (p:List Bool×List Int):Prop where
 len:p.1.length=n
 q:∀x∈p.2,0<=x/\x<n
 m:p.2.length+cF p.1<=n+1
def jX{n:Nat}{p:List Bool×List Int}{e:Int}(h:Ok n p) (f:0<=e) (g:e<n) :
 Ok n (C? p e)/\(C? p e).2.length+cF (C? p e).1=a00 p.2+cF p.1/\(∀b,0<=b->(Sn (C? p e).1 b↔Sn p.1 b\/b=e))/\(∀x,x∈(C? p e).2↔x∈p.2\/(x=e/\¬Sn p.1 e)):=by
 unfold C?;split
 .rename_i c;refine⟨h,rfl,λb hb=>⟨.inl,λh=>?_⟩,λx=>⟨.inl,λh=>?_⟩⟩
  .rcases h with h|rfl
   .exact h
   .exact c
  .rcases h with h|⟨rfl,h⟩
   .exact h
   .exact(h c).elim
 .rename_i c;have d:e.toNat<a00 p.1:=by rw[h.len];omega
  have hf:p.1[e.toNat]?=M a36:=by
   rw[n! d]at c⊢
   cases hb:p.1[e.toNat]with
   |true=>rw[hb]at c;exact(c rfl).elim
   |false=>rfl
  have hc:=au3 hf;have hm:=h.m;refine⟨⟨by simp[h.len],λx hx=>?_,?_⟩,?_,λb hb=>?_,λx=>?_⟩
  .rcases Β.1 hx with hx|hx
   .exact h.q x hx
   .rw[ψ]at hx;subst hx;exact⟨f,g⟩
  .simp only[Χ,mab];omega
  .simp only[Χ,mab];omega
  .unfold Sn;rw[List.getElem?_set];by_cases a:e.toNat=b.toNat
   .rw[J a,J d];exact⟨λ_=>.inr U,λ_=>rfl⟩
   .rw[p5 a];exact⟨.inl,λh=>h.elim id λh=>(a (by rw[h])).elim⟩
  .rw[Β,ψ];exact⟨λh=>h.imp id λh=>⟨h,c⟩,λh=>h.imp id λh=>h.1⟩
theorem OR{n:Nat}:∀{l:List Int}{p:List Bool×List Int},Ok n p->(∀e∈l,0<=e/\e<n)->
 Ok n (l.foldl C? p)/\(l.foldl C? p).2.length+cF (l.foldl C? p).1=a00 p.2+cF p.1/\(∀b,0<=b->(Sn (l.foldl C? p).1 b↔Sn p.1 b\/b∈l))/\(∀x,x∈(l.foldl C? p).2↔x∈p.2\/(x∈l/\¬Sn p.1 x))
 |[],p,h,_=>by simp[h]
 |e::l,p,h,hl=>by
  obtain⟨j,k⟩:=hl e l5;obtain⟨a1,a2,a3,a4⟩:=jX h j k;obtain⟨f,b2,g,i⟩:=OR a1 (λx hx=>hl x (by simp[hx])) (l:=l);simp only[Z'];refine⟨f,U,λb hb=>?_,λx=>?_⟩
  .rw[g b hb,a3 b hb,Y'];constructor
   .rintro((h|h)|h)
    .exact .inl h
    .exact .inr (.inl h)
    .exact .inr (.inr h)
   .rintro(h|h|h)
    .exact .inl (.inl h)
    .exact .inl (.inr h)
    .exact .inr h
  .rw[i x,a4 x,Y'];constructor
   .rintro((h|⟨rfl,h⟩)|⟨h,a⟩)
    .exact .inl h
    .exact .inr ⟨.inl rfl,h⟩
    .exact .inr ⟨.inr h,λd=>a ((a3 x (hl x (by simp[h])).1).2 (.inl d))⟩
   .rintro(h|⟨rfl|h,a⟩)
    .exact .inl (.inl h)
    .exact .inl (.inr ⟨rfl,a⟩)
    .by_cases c:x=e
     .subst c;exact .inl (.inr ⟨rfl,a⟩)
     .exact .inr ⟨h,λd=>((a3 x (hl x (by simp[h])).1).1 d).elim a c⟩
def Q5{i:Int}(h0:0<=i) (h1:i<9223372036854775807):aa .i64 (i+1)=i+1:=BA ⟨U,U⟩
theorem aZ1{n:Nat}(hn:n<=1048576) {l:List Int}(hl:l.length<=1048576) (c:∀e∈l,0<=e/\e<n):∀(k:Nat) {p:List Bool×List Int}{i:Nat},a00 l-i=k->Ok n p->
 ca (Sj l) (p.1,p.2,(i:Int))=M (.inl ((l.drop i).foldl C? p))
 |0,p,i,hk,d=>by
  rw[Aac U];refine Ob ?_;unfold Sj;simp only;rw[p5];rfl
 |k+1,p,i,hk,d=>by
  have hi:i<a00 l:=U
  obtain⟨f,g⟩:=c l[i] (y! hi);have a:l[i].toNat<a00 p.1:=by rw[d.len];omega
  rw[Yaa hi,Z'];have b:Sj l (p.1,p.2,(i:Int))=M (.go ((C? p l[i]).1,(C? p l[i]).2,((i+1:Nat):Int))):=by
   unfold Sj;simp only;rw[J];have e1:c! l (i:Int)=M l[i]:=by simp[c!,hi]
   have e2:c! p.1 l[i]=M p.1[l[i].toNat]:=by simp[c!,f,a]
   have e3:aa .i64 ((i:Int)+1)=((i+1:Nat):Int):=by rw[Q5 U U];omega
   rw[e1,a!,e2,a!,e3];unfold C?;rw[n! a]
   cases hb:p.1[l[i].toNat]with
   |true=>simp
   |false=>
    have e4:put p.1 l[i] a35=M (p.1.set l[i].toNat a35):=by simp[put,f,a]
    have e5:app 8 p.2 [l[i]]=M (p.2++[l[i]]):=by
     have hm:=d.m;unfold app;rw[if_pos];simp only[mab];omega
    rw[J rfl,e4,a!,e5];simp
  rw[Ie b];exact aZ1 hn hl c k (i:=i+1) U (jX d f g).1
def bt1(g:List (List Int)) (a b:Int):Prop:=b=a\/I' g a b
structure Bfs (g:List (List Int)) (a:Int) (p:List Bool×List Int):Prop where
 ok:Ok g.length p
 sound:∀b,0<=b->Sn p.1 b->I' g a b
 qs:∀x∈p.2,bt1 g a x
 done:∀b,0<=b->(b=a\/Sn p.1 b)->b∈p.2\/∀l,g[b.toNat]?=M l->∀c∈l,Sn p.1 c
def cq8{g:List (List Int)}{a:Int}(hn:g.length<=1048576) (y:∀l∈g,a00 l<=1048576/\∀e∈l,0<=e/\e<a00 g):∀(k:Nat) {p:List Bool×List Int},a00 p.2+cF p.1=k->Bfs g a p->
 ∃s,ca (ph g) p=M (.inl s)/\Bfs g a (s,[]):=by
 intro k
 induction k with
 |zero=>
  intro p hk f;obtain⟨s,q⟩:=p;have:q=[]:=Ε (by dsimp only at hk;omega);subst this;exact⟨s,Ob (by simp[ph]),f⟩
 |succ k A=>
  intro p hk f;obtain⟨s,q⟩:=p
  cases q with
  |nil=>exact⟨s,Ob (by simp[ph]),f⟩
  |cons d q=>
   obtain⟨z,d1⟩:=f.ok.q d l5;have hd:d.toNat<a00 g:=U
   obtain⟨gl,ge⟩:=y g[d.toNat] (y! hd);have o:Ok g.length (s,q):=⟨f.ok.len,λx hx=>f.ok.q x (by simp[hx]),by have:=f.ok.m;simp only[H!]at this⊢;omega⟩;obtain⟨B,C,t,w⟩:=OR o ge (l:=g[d.toNat]);have j:ph g (s,d::q)=M (.go (g[d.toNat].foldl C? (s,q))):=by
    unfold ph;simp only;rw[J l5];have e1:c! (d::q) 0=M d:=rfl;have e2:pK (d::q) 1=M q:=by simp[pK]
    have e3:c! g d=M g[d.toNat]:=by simp[c!,z,hd]
    have e4:=aZ1 hn gl ge _ (p:=(s,q)) (i:=0) rfl o;simp only[List.drop_zero,vad]at e4;rw[e1,a!,e2,a!,e3,a!,e4];rfl
   rw[Ie j];have v:q.length+cF s=k:=by simp only[H!]at hk;omega
   refine A (by rw[C];exact v) ⟨B,λb hb r=>?_,λx hx=>?_,λb hb u=>?_⟩
   .rcases(t b hb).1 r with h|h
    .exact f.sound b hb h
    .rcases f.qs d l5 with rfl|hr
     .exact .one (n! hd) h
     .exact .step hr (n! hd) h
   .rcases(w x).1 hx with h|⟨h,-⟩
    .exact f.qs x (by simp[h])
    .right;rcases f.qs d l5 with rfl|hr
     .exact .one (n! hd) h
     .exact .step hr (n! hd) h
   .have up:∀c,0<=c->Sn s c->Sn (g[d.toNat].foldl C? (s,q)).1 c:=λc hc h=>(t c hc).2 (.inl h);by_cases n:b=d
    .subst n;right;intro l hl c hc;rw[n! hd]at hl;injection hl with hl;subst hl;exact(t c (ge c hc).1).2 (.inr hc)
    .have key:(b=a\/Sn s b)\/(b∈g[d.toNat]/\¬Sn s b):=by
      rcases u with h|h
      .exact .inl (.inl h)
      .rcases(t b hb).1 h with h|h
       .exact .inl (.inr h)
       .by_cases r:Sn s b
        .exact .inl (.inr r)
        .exact .inr ⟨h,r⟩
     rcases key with h|h
     .rcases f.done b hb h with h|h
      .rcases Y'.1 h with h|h
       .exact(n h).elim
       .exact .inl ((w b).2 (.inl h))
      .right;intro l hl c hc;have hm:l∈g:=uab hl;exact up c ((y l hm).2 c hc).1 (h l hl c hc)
     .exact .inl ((w b).2 (.inr h))
theorem aZ0{s:List Bool}(e:s.length<=1048576):∀(k:Nat) {i:Nat},a00 s-i=k->i<=a00 s->
 ca (Tj s) (((o? i).map λ(k:Nat)=>(k:Int)).filter (λb=>s5 (Sn s b)),(i:Int))=M (.inl (((o? s.length).map λ(k:Nat)=>(k:Int)).filter λb=>s5 (Sn s b)))
 |0,i,hk,hi=>by
  have:i=a00 s:=U
  subst this;refine Ob ?_;unfold Tj;simp
 |k+1,i,hk,hi=>by
  have a:i<a00 s:=U
  have hlen:(((o? i).map λ(k:Nat)=>(k:Int)).filter (λb=>s5 (Sn s b))).length<=i:=P' (Ο _ _) l5;have d:Tj s (((o? i).map λ(k:Nat)=>(k:Int)).filter (λb=>s5 (Sn s b)),(i:Int))=M (.go (((o? (i+1)).map λ(k:Nat)=>(k:Int)).filter (λb=>s5 (Sn s b)),((i+1:Nat):Int))):=by
   unfold Tj;simp only;rw[J];have e1:c! s (i:Int)=M s[i]:=by simp[c!,a]
   have e3:aa .i64 ((i:Int)+1)=((i+1:Nat):Int):=by rw[Q5 U U];omega
   rw[e1,a!,e3,nac,List.map_append,ι]
   cases hb:s[i]with
   |true=>
    have c:Sn s ((i:Nat):Int):=by unfold Sn;simp[a,hb]
    have e5:app 8 (((o? i).map λ(k:Nat)=>(k:Int)).filter (λb=>s5 (Sn s b))) [(i:Int)]=M (((o? i).map λ(k:Nat)=>(k:Int)).filter (λb=>s5 (Sn s b))++[(i:Int)]):=by
     unfold app;rw[if_pos];simp only[mab];omega
    rw[J rfl,e5];simp[c]
   |false=>
    have c:¬Sn s ((i:Nat):Int):=by unfold Sn;simp[a,hb]
    rw[p5 l5];simp[c]
  rw[Ie d];exact aZ0 e k (i:=i+1) U U
def q9{t0:List (List Int)}{t1:Int}{r:List Int}(h:Wl t0 t1=M r):Gx t0 t1=M r:=by
 unfold Wl at h;split at h
 .rename_i hc;obtain⟨hn,l,m,o⟩:=hc;obtain rfl:=J! h;unfold Gx;have e1:fD 1 a36 (a00 t0:Int) (a00 t0:Int)=M (l! t0.length a36):=by
   unfold fD;rw[J ⟨U,U,U,aaH⟩];simp
  have hb:Bfs t0 t1 (l! t0.length a36,[t1]):=by
   have f:∀b,¬Sn (l! t0.length a36) b:=λb hb=>by
    unfold Sn at hb;rw[List.getElem?_replicate]at hb;split at hb<;>simp at hb
   refine⟨⟨l5,λx hx=>?_,?_⟩,λb _ g=>(f b g).elim,λx hx=>?_,λb _ g=>?_⟩
   .rw[ψ]at hx;subst hx;exact⟨m,o⟩
   .have:=cp2 (l! t0.length a36);simp only[List.length_replicate,mab]at this⊢;omega
   .rw[ψ]at hx;exact .inl hx
   .rcases g with rfl|g
    .exact .inl l5
    .exact(f b g).elim
  obtain⟨s,e2,hb⟩:=cq8 hn l _ rfl hb;have e:s.length=a00 t0:=hb.ok.len;have e3:=aZ0 (s:=s) U _ (i:=0) rfl U;simp only[List.range_zero,List.map_nil,List.filter_nil,vad]at e3;rw[e1,a!,e2,a!];simp only;rw[e3,a!];simp only;rw[e];unfold tO;congr 1;apply Qad;intro b j;obtain⟨k,-,rfl⟩:=X'.1 j;have c:∀b,I' t0 t1 b->0<=b/\Sn s b:=by
   intro b hr
   induction hr with
   |one h d=>
    have hm:=uab h;refine⟨((l _ hm).2 _ d).1,?_⟩;rcases hb.done t1 m (.inl rfl)with a|a
    .cases a
    .exact a _ h _ d
   |step _ hl hc n=>
    have hm:=uab hl;refine⟨((l _ hm).2 _ hc).1,?_⟩;rcases hb.done _ n.1 (.inr n.2)with a|a
    .cases a
    .exact a _ hl _ hc
  exact decide_eq_decide.2 ⟨λh=>hb.sound _ U h,λh=>(c _ h).2⟩
 .cases h
end Go.Proofs.Dev
set_option maxRecDepth 10000
namespace Go.Proofs.Dev
open Go Go.Tm
def YW:ke:=ke.mk (n? #[98,97,115,101]) 0 (-1) 0 (hO.mk 0 109573) ([]) ([(fr.mk 7 0)]) (n? #[])
def Wi:ek:=ek.mk (n? #[104,111,117,115,101]) (-1) ([(ml.mk (n? #[97]) (ej.mk 3 0))]) ([(ml.mk (n? #[100]) (ej.mk 3 0))]) [YW]
def Xd:cb:=cb.mk ([]) ([]) [Wi]
def eg:kv:=kv.mk 0 (-1) 0 (bz.mk 3 0 500) (hO.mk 0 109573) 0
def xf(l:List kv):mu:=mu.mk 0 0 0 l
def sn:ma:=ma.mk 0 0 1 0 0 0 0 (tk.mk 0 ([]))
theorem az3:Wk Xd 0 Wi=(0,0):=by
 have hc:ff (wL Wi) Wi.d.length=q6:=Xa.2 λi hi=>by
  have:i=0:=by grind[Wi]
  subst this;unfold wL;rw[if_neg];rw[←ZA];have:(LF Wi 0 Wi.d.length).contains 0=a36:=U?
  grind
 unfold Wk;rw[hc];rfl
def uH:Qo Xd=⟨0,0,0,0⟩:=by
 unfold Qo;simp only[show Xd.r.length=0 from rfl,show Xd.Tables.length=0 from rfl,show Xd.e.length=1 from rfl,ff];rw[show Xd.e[0]?=M Wi from rfl]
 grind[az3]
theorem aJ:hhV Xd (xf [eg])=(0,0):=U?
def Fz:m? Xd:=by
 have a:K! Wi:=by constructor<;>simp[Wi,YW]
 constructor<;>simp[Xd,a];simp[Wi,YW,Zb]
 decide
def cX:E! Xd:=by constructor<;>simp[Xd,Wi]
theorem aX:Rh sn.av=M a35:=by
 unfold Rh;rw[Ob (step:=Fc sn.av) (b:=()) rfl];rfl
def ZW{l:List kv}(h:hhV Xd (xf l)=(0,0)):Wc Xd (xf l) sn=M a35:=by
 unfold Wc Ia;rw[nk Fz,ji _ _ Fz.ns,h,uH,aX];rfl
end Go.Proofs.Dev
