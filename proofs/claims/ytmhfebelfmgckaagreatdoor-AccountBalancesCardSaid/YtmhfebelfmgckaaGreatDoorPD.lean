/-
  The functions as plain partial functions, and plain lemmas about them: no condition.
-/
import Derived.Test.YtmhfebelfmgckaaGreatDoorPC
open Option renaming some->M,none->s5
open Decidable renaming decide->s6
open Go.Tm.Ex renaming go->i!,brk->i?,ret->l?
open Bool renaming and_eq_true->E!,eq_iff_iff->Sac,false_eq_true->t!,not_eq_true->Xac,not_false->qac,not_true->Φ,true_eq_false->P!,true->a38,false->a39
open ByteArray renaming mk->n?
open Classical renaming not_not->v!
open Decidable renaming byContradiction->Wad,not_not->Xab
open Int renaming eq_ofNat_of_zero_le->V',le_refl->iae,lt_or_gt_of_ne->Hae,mul_le_mul_of_nonneg_right->rac,natAbs_mul->Xad,natCast_zero->Iad,reduceBEq->F!,reduceEq->u!,toNat_natCast->cac
open List renaming all_eq_true->R',any_eq_false->Qae,contains_iff_mem->Ν,drop_eq_getElem_cons->lab,drop_eq_nil_of_le->Lac,eq_nil_of_length_eq_zero->Δ,eq_of_mem_replicate->yac,ext_getElem->bac,filter_append->δ,filter_congr->dae,filter_eq_nil_iff->Mac,flatMap_append->Cae,foldl_cons->Γ,getElem?_eq_getElem->n!,getElem_map->Zac,getElem_mem->y!,getElem_of_mem->H',getElem_range->Kae,length_append->Τ,length_cons->G!,length_eq_zero_iff->xad,length_filter_le->Ξ,length_map->Mab,length_singleton->yab,length_take->Aac,map_congr_left->oac,mem_append->Z?,mem_append_left->xae,mem_cons->Z',mem_cons_self->yad,mem_filter->tac,mem_map->V!,mem_of_find?_eq_some->sad,mem_of_getElem?->Gab,mem_of_mem_take->Rab,mem_range->Eac,mem_singleton->Tab,mem_take_iff_getElem->Zad,nodup_append->Rae,not_mem_nil->lae,pairwise_iff_getElem->Pab,pairwise_lt_range->Aad,range->p!,range_succ->uac,replicate->k?,replicate_succ->Υ,set_append_right->Qac,set_cons_zero->fac,take_add_one->N!,take_length->ν,take_of_length_le->lac,length->a00
open List.Pairwise renaming imp->Pae
open Nat renaming le_trans->N?,mul_le_mul->dac,zero_le->L!
open Option renaming any_some->xac,bind->b?,bind_some->a!,getD_some->κ,map_none->Sad,toList_some->Bab
open Option.some renaming inj->J'
set_option linter.all false
set_option maxRecDepth 10000
set_option maxHeartbeats 1000000
namespace Go.Proofs.Dev
open Go Go.Tm
variable {a b N d m sc rec:Int}{α:Type}{k:Bool->Option α}{env:ic}{args:List bz}{e:List fr}{out:List Int}{w:List Bool}{f:Nat->Bool}{step:List Bool×Int->Option (Ex (List Bool×Int) (List Bool) Unit)}{p:ia}{ms:ek}{fs:List mu}{q:List ia}
theorem av4{op:Int}{a b:bz}(c:op=13\/op=14\/op=15\/op=16):Aa op a b=M (decide
 ((op=13/\b.a=2/\(a.a=2\/a.a=3))\/(op=14/\b.a=4/\(a.a=3\/a.a=4))\/(op=15/\((b.a=2/\(a.a=2\/a.a=3))\/(a.a=3/\b.a=3)))\/(op=16/\a.a=3/\b.a=3))):=by
 rcases c with rfl|rfl|rfl|rfl<;>simp only[Aa,u!,D1,u4,a!,F!,t!,false_and,R1,false_or,or_false]
 .grind
 .grind
 .by_cases g1:b.a=2
  .by_cases g2:a.a=2<;>by_cases g3:a.a=3<;>simp[g1,g2,g3]
  grind
 grind
theorem lS{x y:Int}(hx:-1000000000000000<=x/\x<=1000000000000000) (hy:-1000000000000000<=y/\y<=1000000000000000):Vv x y=M (if(x*y).natAbs<=1000000000000000 then(x*y,0)else(0,3)):=by
 unfold Vv;rw[WM U U,WM U U,M4 U U,a!];dsimp only;have hn:x.natAbs*y.natAbs=(x*y).natAbs:=(Xad x y).symm;have hb:(x*y).natAbs<=1000000000000000*1000000000000000:=by rw[←hn];exact dac U U
 rw[hn];obtain⟨p,e⟩:∃p,(x*y).natAbs=p:=⟨_,rfl⟩;rw[e]at hb⊢;have hs:¬(x*y).natAbs=0->(¬(s6 (x<0))=(s6 (y<0))↔x*y<0):=by
  intro h0;have c:x≠0:=o4
  have h2:y≠0:=o4
  rcases Hae c with a|a<;>rcases Hae h2 with b|b
  .grind
  .have:=Int.mul_neg_of_neg_of_pos a b
   grind
  .have:=Int.mul_neg_of_pos_of_neg a b
   grind
  grind
 by_cases d:p<=1000000000000000
 .rw[J d];have c:p / 18446744073709551616=0:=U
  have h2:p % 18446744073709551616=p:=U
  rw[c,h2,J (by rfl),a!,p6 o4,f? (n:=(p:Int)) U U,f? U U]
  grind
 grind
theorem cs0{x:Int}(hx:-9223372036854775807<=x/\x<=9223372036854775807) {k:Int->Option α}:(b? (α:=Int) (if x<0 then M (aa .i64 (0-x))else M x) k)=k (x.natAbs:Int):=by
 by_cases h:x<0
 .rw[J h,a!,f? U U];grind
 grind
theorem YQ{k:Int}{most:Nat}(hk:(k=2/\most=1000000000000)\/(k=3/\most=1000000000000000)) {x y:Int}(hx:-1000000000000000<=x/\x<=1000000000000000) (hy:-1000000000000000<=y/\y<=1000000000000000) :
 Rq k x y=M (if(x*y).natAbs<=1000000000000000 then jr ⟨k,0,x*y⟩else(⟨0,0,0⟩,3)):=by
 unfold Rq;have a:It k=M (-(most:Int),(most:Int)):=by
  rcases hk with⟨rfl,rfl⟩|⟨rfl,rfl⟩<;>rfl
 rw[a,a!,cs0 U,cs0 U];have b:∀{α:Type} (f:Bool->Option α),(b? (α:=Bool) (if¬(y.natAbs:Int)=0 then(quo .i64 (most:Int) (y.natAbs:Int)).bind λd=>M (s6 (d<(x.natAbs:Int)))else M a39) f)=f (s6 (most<x.natAbs*y.natAbs)):=by
  intro α f;by_cases h0:y.natAbs=0
  .simp_all
  .rw[J,YT U U,a!,a!];congr 1;rw[decide_eq_decide];rw[←Nat.div_lt_iff_lt_mul U];omega
 dsimp only;rw[b];have hn:x.natAbs*y.natAbs=(x*y).natAbs:=(Xad x y).symm;have hb:(x*y).natAbs<=1000000000000000*1000000000000000:=by rw[←hn];exact dac U U
 rw[hn];have c:Ia ⟨k,0,x*y⟩↔(x*y).natAbs<=most:=by unfold Ia;grind
 by_cases ho:most<(x*y).natAbs
 .rw[J l5];have hnp:jr ⟨k,0,x*y⟩=(⟨0,0,0⟩,3):=p6 (λh=>absurd (c.1 (D2 h)) U)
  simp_all
 .rw[p6 l5,J,f? U U,Jb];rfl
theorem JM{op:Int}{a b:bz}(g:op=13\/op=14\/op=15\/op=16) (ha:Ia a) (hb:Ia b):Bn (Sb ⟨op,N⟩ [a,b] env) (ub ⟨op,N⟩ [a,b] env):=by
 have h1:=ha.range;have h2:=hb.range;have c:ea ⟨op,N⟩ [a,b] env=_:=(fE U).trans (av4 g);have f:sa ⟨op,N⟩ [a,b] env=Wb ⟨op,N⟩ a b:=by
  rw[py U];rcases g with rfl|rfl|rfl|rfl<;>simp only[Na,u!,F!,D1,u4,t!,a!,wj]
 have d:ub ⟨op,N⟩ [a,b] env=Nd ⟨op,N⟩ a b:=by
  rcases g with rfl|rfl|rfl|rfl<;>simp only[ub,Ib,Int.reduceLE,D1,G2,a!,wj]
 rcases g with rfl|rfl|rfl|rfl
 .simp only[u!,R1,false_and,or_false]at c;have i:Nd ⟨13,N⟩ a b=if b.a=2/\(a.a=2\/a.a=3)then Rq a.a a.N b.N else M (⟨0,0,0⟩,8):=by
   simp only[Nd,u!,D1,u4,a!,wj]
   grind
  by_cases hc:b.a=2/\(a.a=2\/a.a=3)
  .rw[s7 hc]at c;rw[J hc]at i;have j:=YQ (k:=a.a) (x:=a.N) (y:=b.N) (most:=if a.a=2 then 1000000000000 else 1000000000000000) (by
    grind) U U
   have hq:Wb ⟨13,N⟩ a b=M (⟨a.a,0,(if(a.N*b.N).natAbs<=1000000000000000 then(a.N*b.N,(0:Int))else(0,3)).1⟩,(if(a.N*b.N).natAbs<=1000000000000000 then(a.N*b.N,(0:Int))else(0,3)).2):=by
    simp_all[Wb,lS]
   by_cases h:(a.N*b.N).natAbs<=1000000000000000
   .rw[J h]at j hq
    grind[we]
   .rw[p6 h]at j hq
    grind[we]
  .rw[w2 hc]at c;rw[p6 hc]at i
   grind[Gn]
 .simp only[u!,R1,false_and,or_false,false_or]at c;by_cases hc:b.a=4/\(a.a=3\/a.a=4)
  .rw[s7 hc]at c;rcases hc with⟨c1,c2|c2⟩
   .refine we (v:=⟨a.a,0,(mdS a.N b.N 1000000 N).1⟩) (e:=(mdS a.N b.N 1000000 N).2) c (f.trans ?_) (d.trans ?_)
    all_goals simp_all[Wb,Nd,fJ,PQ,Mp]
   .refine we (v:=⟨a.a,0,(xW a.N b.N N).1⟩) (e:=(xW a.N b.N N).2) c (f.trans ?_) (d.trans ?_)
    .simp_all[Wb,XO]
    simp_all[Nd,NW,Mp]
  .rw[w2 hc]at c;refine Gn c (d.trans ?_)
   grind[Nd]
 .simp only[u!,R1,false_and,or_false,false_or]at c;by_cases hc:(b.a=2/\(a.a=2\/a.a=3))\/(a.a=3/\b.a=3)
  .rw[s7 hc]at c;rcases hc with⟨c1,c2⟩|⟨c1,c2⟩
   .refine we (v:=⟨a.a,0,(tR a.N b.N N).1⟩) (e:=(tR a.N b.N N).2) c (f.trans ?_) (d.trans ?_)
    .simp_all[Wb,Kh]
    .simp only[Nd,u!,D1,u4,c1,F!,beq_self_eq_true,a!,QC,Mp,wj,t!]
     grind
   .refine we (v:=⟨4,0,(frS a.N b.N N).1⟩) (e:=(frS a.N b.N N).2) c (f.trans ?_) (d.trans ?_)
    .simp_all[Wb,OC]
    simp_all[Nd,gJ,Mp]
  .rw[w2 hc]at c;refine Gn c (d.trans ?_)
   grind[Nd]
 .simp only[u!,R1,false_and,or_false,false_or]at c;by_cases hc:a.a=3/\b.a=3
  .rw[s7 hc]at c;obtain⟨c1,c2⟩:=hc;refine we (v:=⟨a.a,0,(rtS a.N b.N N).1⟩) (e:=(rtS a.N b.N N).2) c (f.trans ?_) (d.trans ?_)
   .simp_all[Wb,WD]
   simp_all[Nd,tM,Mp]
  .rw[w2 hc]at c;refine Gn c (d.trans ?_)
   grind[Nd]
theorem am0{op:Int}(hop:36<=op/\op<=39) (t:ej):Sc op t=M (s6 (t.g=0/\((op=36/\(t.a=2\/t.a=3))\/(op=39/\2<=t.a/\t.a<=5)\/(op≠36/\op≠39/\t.a=1))))/\xu op t=M (s6 (t.g=0/\((op=36/\(t.a=2\/t.a=3))\/(op=39/\2<=t.a/\t.a<=5)\/(op≠36/\op≠39/\t.a=1)))):=by
 unfold Sc xu;simp only[KR,Cc];by_cases hE:t.g=0
 case neg=>grind
 have hk:(2<=t.a/\t.a<=5)↔((2<=t.a/\t.a<=4)\/t.a=5):=U
 have:op=36\/op=37\/op=38\/op=39:=U
 rcases this with rfl|rfl|rfl|rfl
 all_goals grind
structure cD0 (op:Int) (t:ej) (i:Nat) (x:Int×Int×Int×Int) (y:Int×Int):Prop where
 k:x.1=t.a
 e:x.2.1=0
 n:x.2.2.1=y.1
 xi:x.2.2.2=(i:Int)
 yi:y.2=(i:Int)
 pl:(op=39/\i=0/\y.1=0)\/Ia ⟨t.a,0,y.1⟩
variable {op x y:Int}{t:ej}
theorem as2(he:w? env) (w:36<=op/\op<=39) (hf:Pw ⟨op,N⟩ env=a38):Bn (Sb ⟨op,N⟩ [] env) (ub ⟨op,N⟩ [] env):=by
 have p:0<=N/\N<(a00 env.av:Int):=by
  grind[Pw]
 have hi:c! env.av N=M (env.av[N.toNat]' U):=nh p.1 p.2;generalize env.av[N.toNat]' U=t at hi;obtain⟨m1,m2⟩:=am0 w t;have o:ea ⟨op,N⟩ [] env=Sc op t:=by
  unfold ea
  grind
 have D:sa ⟨op,N⟩ [] env=Rf ⟨op,N⟩ env:=by
  unfold sa;dsimp only;have Q:(op==5)=a39:=o4
  rw[p6,p6,p6,p6,Q,a!,p6 o0,p6,p6,p6,p6,p6,X8,s7 w,J rfl,wj]
 have H:ub ⟨op,N⟩ [] env=Qq ⟨op,N⟩ env:=by
  simp_all[ub]
 rw[m1]at o;have a:=H;unfold Qq at a;dsimp only at a;rw[hi,a!,m2,a!]at a;by_cases hc:t.g=0/\((op=36/\(t.a=2\/t.a=3))\/(op=39/\2<=t.a/\t.a<=5)\/(op≠36/\op≠39/\t.a=1))
 case neg=>
  grind[Gn]
 rw[s7 hc,p6 o0]at a;rw[s7 hc]at o;obtain⟨R,S⟩:=hc;have m:(if op=37 then M (1:Int)else M 0)=M (if op=37 then 1 else 0):=o4
 rw[m,a!]at a;have F:=WI (s1:=Bd ⟨op,N⟩ env t) (s2:=Kt ⟨op,N⟩ env t) (λx y=>∃i:Nat,i<=a00 env.s/\cD0 op t i x y) (λx=>(a00 env.s-x.2.2.2).toNat) (λx y=>x.1=t.a/\x.2.1=0/\x.2.2=y/\((op=39/\env.s.length=0)\/Ia ⟨t.a,0,y⟩)) (λx y=>x=y/\x.2≠0/\x.1=⟨0,0,0⟩) (by
  rintro⟨j8,P,c,x4⟩ ⟨y1,y2⟩ ⟨i,hil,⟨g1,g2,g3,g4,g5,A⟩⟩;dsimp only at g1 g2 g3 g4 g5 A;subst g1;subst g2;subst g3;subst g4;subst g5;unfold Bd Kt;dsimp only;by_cases G:i<a00 env.s
  case neg=>
   rw[p6,p6]
   grind
  rw[J,J,va G];simp only[a!];generalize env.s[i]=l;by_cases hN:(a00 l:Int)<=N
  .rw[p6];simp
  rw[J hN,nh p.1 U];simp only[a!,Uv,RW];generalize l[N.toNat]' U=v;by_cases hv0:v.a=0
  .simp_all
  rw[show(v.a==0)=a39 by simp[hv0]];simp only[t!,u4];by_cases E:(Yz v&&(s6 (v.a=t.a)&&s6 (v.g=t.g)))=a38
  case neg=>
   simp_all
  rw[E];simp only[E!,w3]at E;obtain⟨T,K,hve⟩:=E;have s:Ia v:=D2 T;have hvr:=s.range;simp only[P!,u4];have hacc:-1000000000000000<=c/\c<=1000000000000000:=by
   rcases A with⟨_,_,h⟩|h
   .omega
   .have:=h.range;simp_all
  have hvt:v=⟨t.a,0,v.N⟩:=by
   obtain⟨k,e,n⟩:=v
   simp_all
  have ops:op=36\/op=37\/op=38\/op=39:=U
  rcases ops with rfl|rfl|rfl|rfl
  ·
    simp only[u!,D1,Xu,f? (n:=c+v.N) U U,a!,wb,Jb,jr];by_cases I:Yz ⟨t.a,0,c+v.N⟩=a38
    .rw[I];simp only[P!,u4,D1,a!,not_true];rw[pa (by have:=he.mem;omega)];exact .inl ⟨_,_,rfl,rfl,⟨i+1,U,⟨rfl,rfl,rfl,rfl,rfl,.inr (D2 I)⟩⟩,o4⟩
    .rw[Bool.eq_false_iff.2 I];simp
  ·
    have q:t.a=1:=U
    have j9:=WT s U;have L:c=0\/c=1:=by
     rcases A with⟨h,_⟩|h
     .omega
     .exact(WT h q).2
    have r:c*v.N=min c v.N:=by
     grind
    have b:Ia ⟨t.a,0,min c v.N⟩:=o4
    simp only[u!,D1,u4,Xu,r,f? (n:=min c v.N) U U,a!,Jb,ED b,not_true];rw[pa (by have:=he.mem;omega)];exact .inl ⟨_,_,rfl,rfl,⟨i+1,U,⟨rfl,rfl,rfl,rfl,rfl,.inr b⟩⟩,o4⟩
  ·
    have q:t.a=1:=U
    have j9:=WT s U;have L:c=0\/c=1:=by
     rcases A with⟨h,_⟩|h
     .omega
     .exact(WT h q).2
    have r:(if c<v.N then M v.N else M c)=M (max c v.N):=by
     grind
    have b:Ia ⟨t.a,0,max c v.N⟩:=o4
    simp only[u!,D1,u4,Xu,r,a!,Jb,ED b,not_true];rw[pa (by have:=he.mem;omega)];exact .inl ⟨_,_,rfl,rfl,⟨i+1,U,⟨rfl,rfl,rfl,rfl,rfl,.inr b⟩⟩,o4⟩
  ·
    have j:∀{α:Type} (f:Bool->Option α),(b? (α:=Bool) (if¬(i:Int)=0 then M (s6 (c<v.N))else M a38) f)=f (s6 ((i:Int)=0\/c<v.N)):=by
     grind
    have g:∀{α:Type} (f:Bool->Option α),(b? (α:=Bool) (if((i:Int)==0)=a39 then M (s6 (c<v.N))else M a38) f)=f (s6 ((i:Int)=0\/c<v.N)):=by
     grind
    simp only[u!,D1,u4,Xu,j,g];by_cases hb:(i:Int)=0\/c<v.N
    .rw[s7 hb];have b:Ia ⟨t.a,0,v.N⟩:=o4
     simp only[D1,a!,Jb,ED b,not_true,u4];rw[pa (by have:=he.mem;omega)];exact .inl ⟨_,_,rfl,rfl,⟨i+1,U,⟨K,o4,rfl,rfl,rfl,.inr b⟩⟩,o4⟩
    .rw[w2 hb];have b:Ia ⟨t.a,0,c⟩:=by
      grind
     simp only[t!,u4,a!,Jb,ED b,not_true];rw[pa (by have:=he.mem;omega)];exact .inl ⟨_,_,rfl,rfl,⟨i+1,U,⟨rfl,rfl,rfl,rfl,rfl,.inr b⟩⟩,o4⟩) env.s.length (t.a,t.g,(if op=37 then 1 else 0),0) ((if op=37 then 1 else 0),0) o0 ⟨0,L! _,rfl,R,rfl,rfl,rfl,by
    rcases S with⟨h,h2⟩|⟨h,h2⟩|⟨h,h2,h3⟩
    .right;rw[p6];unfold Ia;grind
    .omega
    .right;unfold Ia;grind⟩
 have u:∀{α:Type} (f:Bool->Option α),(b? (α:=Bool) (if op=39 then M ((a00 env.s:Int)==0)else M a39) f)=f (s6 (op=39/\env.s.length=0)):=by
  intro α f;by_cases h:op=39
  .rw[J h,a!];congr 1
   grind
  simp_all
 have d:=D;unfold Rf at d;dsimp only at d;rw[hi,a!,m,a!,u]at d;simp only[u]at a;rcases F with⟨⟨b1,b2,b3⟩,y,j6,O,q1,B,z,q4⟩|⟨x,y,j6,O,rfl,B,z⟩
 .dsimp only at q1 B z;subst q1;subst B;subst z;rw[j6]at d;rw[O,a!]at a;dsimp only at a;by_cases C:op=39/\env.s.length=0
  .grind[we]
  .rw[w2 C]at d a;simp only[t!,u4,a!,Jb]at d a
   grind[we]
 .rw[j6]at d;rw[O,a!]at a;dsimp only at a;obtain⟨j8,P⟩:=x;dsimp only at B z;subst z;by_cases C:op=39/\env.s.length=0
  .exfalso;have:ca (Bd ⟨op,N⟩ env t) (t.a,t.g,(if op=37 then 1 else 0),0)=M (.inl (t.a,t.g,(if op=37 then 1 else 0))):=by
    simp_all[Bd,Qb]
   simp_all
  .rw[w2 C]at d;exact we (v:=⟨0,0,0⟩) (e:=P) o d l5
theorem oY{n:fr}(he:w? env) (hN:cc n) (hl:args.length<=3):Bn (og n args env) (Es n args env):=by
 refine yY hl λd h2 h3 h4 h5=>?_;obtain⟨op,N⟩:=n;dsimp only at d h2;have two:(11<=op/\op<=24)\/(27<=op/\op<=30)->∃a b,args=[a,b]:=by
  intro h;have:args.length=2:=by grind[Kb]
  match args,this with
  |[a,b],_=>simp
 have one:op=10\/op=25\/(31<=op/\op<=34)->∃a,args=[a]:=by
  intro h;have:args.length=1:=by grind[Kb]
  match args,this with
  |[a],_=>simp
 have zero:op<=9\/35<=op->args=[]:=by
  grind[Kb,xad]
 rcases NC d with h|h|h|h|h|h|h|h|h|h|h|h|h|h|h|h|h|h|h|h|h|h|h|h|h|h|h|h|h|h|h|h|h|h|h|h|h|h|h<;>subst h
 .grind[IE]
 .grind[IE]
 .grind[IE]
 .grind[IE]
 .grind[IE]
 .grind[bq2]
 .grind[bq1]
 .grind[bq0]
 .grind[bp9]
 .obtain⟨a,rfl⟩:=one U;grind[aP9]
 .obtain⟨a,b,rfl⟩:=two U;grind[X1]
 .obtain⟨a,b,rfl⟩:=two U;grind[X1]
 .obtain⟨a,b,rfl⟩:=two U;grind[JM]
 .obtain⟨a,b,rfl⟩:=two U;grind[JM]
 .obtain⟨a,b,rfl⟩:=two U;grind[JM]
 .obtain⟨a,b,rfl⟩:=two U;grind[JM]
 .obtain⟨a,b,rfl⟩:=two U;grind[Y1]
 .obtain⟨a,b,rfl⟩:=two U;grind[Y1]
 .obtain⟨a,b,rfl⟩:=two U;grind[Z1]
 .obtain⟨a,b,rfl⟩:=two U;grind[Z1]
 .obtain⟨a,b,rfl⟩:=two U;grind[B2]
 .obtain⟨a,b,rfl⟩:=two U;grind[B2]
 .obtain⟨a,b,rfl⟩:=two U;grind[F2]
 .obtain⟨a,b,rfl⟩:=two U;grind[F2]
 .obtain⟨a,rfl⟩:=one U;grind[aP8]
 .have:args.length=3:=by grind[Kb]
  match args,this with
  |[a,b,c],_=>grind[aP7]
 .obtain⟨a,b,rfl⟩:=two U;grind[aP6]
 .obtain⟨a,b,rfl⟩:=two U;grind[aP5]
 .obtain⟨a,b,rfl⟩:=two U;grind[K2]
 .obtain⟨a,b,rfl⟩:=two U;grind[K2]
 .obtain⟨a,rfl⟩:=one U;grind[oR]
 .obtain⟨a,rfl⟩:=one U;grind[oR]
 .obtain⟨a,rfl⟩:=one U;grind[aP4]
 .obtain⟨a,rfl⟩:=one U;grind[aP3]
 all_goals grind[aP2,as2]
theorem FJ{a b:bz}(f:op=13\/op=14\/op=15\/op=16) (ha:Ia a) (hb:Ia b):MA (Sb ⟨op,N⟩ [a,b] env):=by
 have h1:=ha.range;have h2:=hb.range;have c:ea ⟨op,N⟩ [a,b] env=_:=(fE U).trans (av4 f);have d:sa ⟨op,N⟩ [a,b] env=Wb ⟨op,N⟩ a b:=by
  rw[py U];rcases f with rfl|rfl|rfl|rfl<;>simp only[Na,u!,F!,D1,u4,t!,a!,wj]
 rcases f with rfl|rfl|rfl|rfl
 .simp only[u!,R1,false_and,or_false]at c;have hq:Wb ⟨13,N⟩ a b=M (⟨a.a,0,(if(a.N*b.N).natAbs<=1000000000000000 then(a.N*b.N,(0:Int))else(0,3)).1⟩,(if(a.N*b.N).natAbs<=1000000000000000 then(a.N*b.N,(0:Int))else(0,3)).2):=by
   simp_all[Wb,lS]
  grind[MA.ite]
 .simp only[u!,R1,false_and,or_false,false_or]at c;by_cases hc:b.a=4/\(a.a=3\/a.a=4)
  .rw[s7 hc]at c;rcases hc with⟨c1,c2|c2⟩
   .refine An (v:=⟨a.a,0,(mdS a.N b.N 1000000 N).1⟩) (e:=(mdS a.N b.N 1000000 N).2) c (d.trans ?_)
    simp_all[Wb,fJ]
   .refine An (v:=⟨a.a,0,(xW a.N b.N N).1⟩) (e:=(xW a.N b.N N).2) c (d.trans ?_)
    simp_all[Wb,XO]
  grind[qz]
 .simp only[u!,R1,false_and,or_false,false_or]at c;by_cases hc:(b.a=2/\(a.a=2\/a.a=3))\/(a.a=3/\b.a=3)
  .rw[s7 hc]at c;rcases hc with⟨c1,c2⟩|⟨c1,c2⟩
   .refine An (v:=⟨a.a,0,(tR a.N b.N N).1⟩) (e:=(tR a.N b.N N).2) c (d.trans ?_)
    simp_all[Wb,Kh]
   .refine An (v:=⟨4,0,(frS a.N b.N N).1⟩) (e:=(frS a.N b.N N).2) c (d.trans ?_)
    simp_all[Wb,OC]
  grind[qz]
 .simp only[u!,R1,false_and,or_false,false_or]at c;refine MA.ite (v:=⟨a.a,0,(rtS a.N b.N N).1⟩) (e:=(rtS a.N b.N N).2) c λhc=>d.trans ?_
  simp_all[Wb,WD]
theorem Y8(hop:36<=op/\op<=39) (t:ej):Sc op t=M (s6 (t.g=0/\((op=36/\(t.a=2\/t.a=3))\/(op=39/\2<=t.a/\t.a<=5)\/(op≠36/\op≠39/\t.a=1)))):=by
 unfold Sc;simp only[KR,Cc];by_cases hE:t.g=0
 case neg=>grind
 have hk:(2<=t.a/\t.a<=5)↔((2<=t.a/\t.a<=4)\/t.a=5):=U
 have:op=36\/op=37\/op=38\/op=39:=U
 rcases this with rfl|rfl|rfl|rfl
 all_goals grind
theorem NR{σ β ρ:Type}{s:σ->Option (Ex σ β ρ)}(I:σ->Prop) (a:σ->Nat) (QB:β->Prop) (QR:ρ->Prop)
 (h:∀x,I x->(∃d,s x=M (.go d)/\I d/\a d<a x)\/(∃b,s x=M (.brk b)/\QB b)\/∃b,s x=M (.ret b)/\QR b)
 {x:σ} (hi:I x):(∃b,ca s x=M (.inl b)/\QB b)\/∃b,ca s x=M (.inr b)/\QR b:=by
 have:=WI (s1:=s) (s2:=s) (λx y=>x=y/\I x) a (λb c=>b=c/\QB b) (λb c=>b=c/\QR b) (by
  grind) (a x) x x (Nat.le_refl _) ⟨rfl,hi⟩
 grind
theorem aa3(he:w? env) (g:36<=op/\op<=39) (hf:Pw ⟨op,N⟩ env=a38):MA (Sb ⟨op,N⟩ [] env):=by
 have a:0<=N/\N<(a00 env.av:Int):=by
  grind[Pw]
 have hi:c! env.av N=M (env.av[N.toNat]' U):=nh a.1 a.2;generalize env.av[N.toNat]' U=t at hi;have hal:ea ⟨op,N⟩ [] env=Sc op t:=by
  unfold ea
  grind
 have hcm:sa ⟨op,N⟩ [] env=Rf ⟨op,N⟩ env:=by
  unfold sa;dsimp only;have w:(op==5)=a39:=o4
  rw[p6,p6,p6,p6,w,a!,p6 o0,p6,p6,p6,p6,p6,X8,s7 g,J rfl,wj]
 have hov:∃p,Rf ⟨op,N⟩ env=M p:=by
  unfold Rf;dsimp only;rw[hi,a!];obtain⟨j,hj⟩:∃j,(if op=37 then M (1:Int)else M 0)=M j:=by split<;>exact⟨_,rfl⟩
  obtain⟨b,hb⟩:∃b,(if op=39 then M ((a00 env.s:Int)==0)else M a39)=M b:=by split<;>exact⟨_,rfl⟩
  rw[hj,a!,hb,a!]
  cases b with
  |true=>simp
  |false=>
   rw[p6 o0];have f:=NR (s:=Bd ⟨op,N⟩ env t) (λx=>0<=x.2.2.2/\x.2.2.2<=(a00 env.s:Int)) (λx=>(a00 env.s-x.2.2.2).toNat) (λ_=>True) (λ_=>True) (by
    rintro⟨C,D,k,d⟩ ⟨g1,g2⟩;dsimp only at g1 g2;unfold Bd;dsimp only;by_cases c:d<(a00 env.s:Int)
    case neg=>rw[p6 c];simp
    rw[J c,nh g1 c];simp only[a!];generalize env.s[d.toNat]' U=l;by_cases hN:(a00 l:Int)<=N
    .rw[p6];simp
    rw[J hN,nh a.1 U];simp only[a!,Uv,wb];generalize l[N.toNat]' U=v;have hgo:∀m n o:Int,∃e,(M (i! (m,n,o,aa .i64 (d+1))):Option (Ex (Int×Int×Int×Int) (Int×Int×Int) (bz×Int)))=M (.go e)/\(0<=e.2.2.2/\e.2.2.2<=(a00 env.s:Int))/\(a00 env.s-e.2.2.2).toNat<(a00 env.s-d).toNat:=by
     intro m n o;have:=he.mem;rw[f? U U]
     grind
    by_cases hv0:v.a=0
    .simp_all
    have h:(v.a==0)=a39:=by simp[hv0]
    simp only[h,t!,u4];by_cases y:(Yz v&&(s6 (v.a=t.a)&&s6 (v.g=t.g)))=a38
    case neg=>
     simp_all
    rw[y];simp only[P!,u4];by_cases i:op=36
    .simp only[i,D1];cases Yz ⟨C,D,aa .i64 (k+v.N)⟩
     all_goals simp_all
    simp only[i,u4];by_cases z:op=37
    .simp_all
    simp only[z,u4];by_cases A:op=38
    .simp_all
    have B:op=39:=U
    simp only[A,B,u4,D1];obtain⟨b,hb⟩:∃b,(if¬d=0 then M (s6 (k<v.N))else M a38)=M b:=o4
    rw[hb,a!];cases b
    all_goals simp_all) (x:=(t.a,t.g,j,0)) ⟨o0,o0⟩
   rcases f with⟨⟨q,r,b3⟩,u,-⟩|⟨⟨q,r⟩,u,-⟩
   all_goals simp_all
 grind[Y8,MA.ite]
theorem aU0{n:fr}(he:w? env) (hN:cc n) (hl:args.length<=3):MA (og n args env):=by
 refine VU hl λd h2 h3 h4 h5=>?_;obtain⟨op,N⟩:=n;dsimp only at d h2;have two:(11<=op/\op<=24)\/(27<=op/\op<=30)->∃a b,args=[a,b]:=by
  intro h;have:args.length=2:=by grind[Kb]
  match args,this with
  |[a,b],_=>simp
 have one:op=10\/op=25\/(31<=op/\op<=34)->∃a,args=[a]:=by
  intro h;have:args.length=1:=by grind[Kb]
  match args,this with
  |[a],_=>simp
 have zero:op<=9\/35<=op->args=[]:=by
  grind[Kb,xad]
 rcases NC d with h|h|h|h|h|h|h|h|h|h|h|h|h|h|h|h|h|h|h|h|h|h|h|h|h|h|h|h|h|h|h|h|h|h|h|h|h|h|h<;>subst h
 .grind[iD]
 .grind[iD]
 .grind[iD]
 .grind[iD]
 .grind[iD]
 .grind[aA6]
 .grind[aA5]
 .grind[aA4]
 .grind[aA3]
 .obtain⟨a,rfl⟩:=one U;grind[ad3]
 .obtain⟨a,b,rfl⟩:=two U;grind[xX]
 .obtain⟨a,b,rfl⟩:=two U;grind[xX]
 .obtain⟨a,b,rfl⟩:=two U;grind[FJ]
 .obtain⟨a,b,rfl⟩:=two U;grind[FJ]
 .obtain⟨a,b,rfl⟩:=two U;grind[FJ]
 .obtain⟨a,b,rfl⟩:=two U;grind[FJ]
 .obtain⟨a,b,rfl⟩:=two U;grind[yX]
 .obtain⟨a,b,rfl⟩:=two U;grind[yX]
 .obtain⟨a,b,rfl⟩:=two U;grind[zX]
 .obtain⟨a,b,rfl⟩:=two U;grind[zX]
 .obtain⟨a,b,rfl⟩:=two U;grind[AX]
 .obtain⟨a,b,rfl⟩:=two U;grind[AX]
 .obtain⟨a,b,rfl⟩:=two U;grind[BX]
 .obtain⟨a,b,rfl⟩:=two U;grind[BX]
 .obtain⟨a,rfl⟩:=one U;grind[ad2]
 .have:args.length=3:=by grind[Kb]
  match args,this with
  |[a,b,c],_=>grind[ad1]
 .obtain⟨a,b,rfl⟩:=two U;grind[ad0]
 .obtain⟨a,b,rfl⟩:=two U;grind[ac9]
 .obtain⟨a,b,rfl⟩:=two U;grind[CX]
 .obtain⟨a,b,rfl⟩:=two U;grind[CX]
 .obtain⟨a,rfl⟩:=one U;grind[SP]
 .obtain⟨a,rfl⟩:=one U;grind[SP]
 .obtain⟨a,rfl⟩:=one U;grind[ac8]
 .obtain⟨a,rfl⟩:=one U;grind[ac7]
 all_goals grind[ac6,aa3]
theorem ak3(h:W! e) (hN:∀n∈e,cc n) (he:w? env):∀i,i<a00 e->Y? e env i:=
 bg3 h λi hi _=>aU0 he (al4 hN hi) (by grind[UJ,pH])
theorem F1(hN:∀n∈e,cc n) (he:w? env) (h:W! e):Ql e env=M (NM e env (a00 e-1))/\((NM e env (a00 e-1)).2=0->Ia (NM e env (a00 e-1)).1):=
 bu5 h (ak3 h hN he _ (by have:=h.pos;omega))
theorem ax1(hN:∀n∈e,cc n) (he:w? env):MA (Ql e env):=by
 by_cases a:(Vp e).2.2=0
 .obtain⟨b,h2⟩:=F1 hN he (fL a);exact⟨_,b,h2⟩
 .unfold Ql rv;rw[vt];simp only[a!];rw[J a];exact⟨_,rfl,λh=>absurd h a⟩
theorem ak7(h:W! e) (hN:∀n∈e,cc n) (he:w? env):∀i,i<a00 e->Ι e env i:=
 aH7 h λi hi _=>oY he (al4 hN hi) (by grind[iE,pH])
theorem eR(hN:∀n∈e,cc n) (he:w? env):∃p,Ql e env=M p/\Lx e env=M p/\(p.2=0->Ia p.1):=by
 have hf:1000000<=eg:=by grind[eg]
 unfold Ql Lx rv Kz;rw[vt,jw];simp only[a!];by_cases a:(Vp e).2.2=0
 .have h:=fL a;have hp:=h.pos;have hle:=h.le;rw[p6 (v!.2 a),p6 (v!.2 a),RH h];have e1:aa .i64 ((a00 e:Int)-1)=((a00 e-1:Nat):Int):=by grind[f?]
  have hb:=ak7 h hN he (a00 e-1) U;unfold Aj xB;rw[e1,hb.p _ U,hb.r _ U];exact⟨_,rfl,rfl,hb.ok⟩
 simp_all
theorem yB{l:List Int}(hl:l.length<=1073741824) (x:Int):Dv l x=M (l.contains x):=by
 have h:ca (xw l x) 0=M (Rb () (ff (λi=>if(l[i]?.any λy=>y==x)=a38 then M a38 else s5) l.length)):=
  Gb (λi=>(i:Int)) _ l.length () (λi hi _=>by
   unfold xw;rw[J,va hi,n! hi]
   grind[mE,pa]) (λ_=>by grind[xw])
 unfold Dv;have ha:=Wv (l:=l) (q:=λy=>y==x) (g:=λ_=>a38);rw[h];have e:l.contains x=l.any λy=>y==x:=by
  grind
 rw[e]
 cases hf:ff (λi=>if(l[i]?.any λy=>y==x)=a38 then M a38 else s5) l.length with
 |none=>
  have:l.any (λy=>y==x)=a39:=by
   simp_all
  rw[this];rfl
 |some v=>
  have:l.any (λy=>y==x)=a38:=by
   simp_all
  obtain⟨k,_,h2,_⟩:=Qa.1 hf;split at h2
  .injection h2 with h2;subst h2;rw[this];rfl
  simp_all
theorem dH{s:ek}(a:J? s) (ho:out.length<=1048576) (d:Int):Qy s d out=M ((Ow s d).all λe=>out.contains e):=by
 unfold Qy;rw[uA a,a!];have hd:=(ME s d).len;have hdl:(Ow s d).length<=1048576:=by have:=a.defs;omega
 have h:ca (Is out (Ow s d)) 0=M (Rb () (ff (λi=>if((Ow s d)[i]?.any λy=>!out.contains y)=a38 then M a39 else s5) (Ow s d).length)):=
  Gb (λi=>(i:Int)) _ (Ow s d).length () (λi hi _=>by
   unfold Is;rw[J,va hi,n! hi]
   grind[mE,yB,pa]) (λ_=>by grind[Is])
 rw[h];have ha:=Wv (l:=Ow s d) (q:=λy=>!out.contains y) (g:=λ_=>a39);have e:((Ow s d).all λe=>out.contains e) = !(Ow s d).any λy=>!out.contains y:=by
  grind
 rw[e]
 cases hf:ff (λi=>if((Ow s d)[i]?.any λy=>!out.contains y)=a38 then M a39 else s5) (Ow s d).length with
 |none=>
  have:(Ow s d).any (λy=>!out.contains y)=a39:=by
   simp_all
  rw[this];rfl
 |some v=>
  have:(Ow s d).any (λy=>!out.contains y)=a38:=by
   simp_all
  obtain⟨k,_,h2,_⟩:=Qa.1 hf;split at h2
  .injection h2 with h2;subst h2;rw[this];rfl
  simp_all
theorem av6{s:ek}{d:Nat}(hd:d<a00 s.d):∃l,(Ll s)[d]?=M l/\∀x,x∈l↔XL s d x:=by
 have hl:=Rn s;refine⟨(Ll s)[d]' U,n! U,λx=>?_⟩
 grind[jF]
theorem ah0{s:ek}{d:Nat}(hd:d<a00 s.d):CG (Ll s) out d=(!out.contains (d:Int)&&(Ow s d).all λe=>out.contains e):=by
 obtain⟨l,a,h2⟩:=av6 hd;unfold CG;rw[List.getD_eq_getElem?_getD,a];congr 1;rw[Sac,R',R']
 grind[mF]
theorem bh2{s:ek}(e:J? s) (ho:out.length<=1048576):ca (vd s out) 0=M (.inl (match (p! (Ll s).length).find? (CG (Ll s) out)with|some d=>(d:Int)|none=>(a00 s.d:Int))):=by
 have hdl:=e.defs;have hal:=Rn s;obtain⟨N,hN,c,b,hv⟩:∃N:Nat,N<=a00 s.d/\(∀j,j<N->CG (Ll s) out j=a39)/\(N<a00 s.d->CG (Ll s) out N=a38)/\(match (p! (Ll s).length).find? (CG (Ll s) out)with|some d=>(d:Int)|none=>(a00 s.d:Int))=(N:Int):=by
  cases hf:(p! (Ll s).length).find? (CG (Ll s) out)with
  |none=>
   grind
  |some d=>
   have a:=List.find?_some hf;have h2:=sad hf;rw[Eac]at h2;refine⟨d,U,λj hj=>?_,λ_=>a,rfl⟩
   simp_all
 rw[hv];refine Nc (step:=vd s out) (λi=>(i:Int)) N _ (λi hi=>?_) ?_ rfl
 .unfold vd;have a:=c i hi;rw[ah0 U]at a;rw[J,yB (N? ho p5),a!,dH e ho];cases hc:out.contains (i:Int)
  .rw[hc]at a;simp only[qac,Bool.true_and]at a;rw[a];simp only[D1,a!,qac]
   grind[pa]
  .simp only[P!,u4,a!,D1]
   grind[pa]
 .unfold vd;rcases Nat.lt_or_ge N s.d.length with h|h
  .have a:=b h;rw[ah0 h]at a;rw[J,yB (N? ho p5),a!,dH e ho]
   simp_all
  grind
theorem dS{s:ek}(c:J? s):∀(k:Nat) (out:List Int),a00 out+k=a00 s.d->(ca (xd s) out).bind (λy=>match y with|.inr v=>M v|.inl a=>M (a,0))=M (Xx (Ll s) k out)
 |0,out,h=>by
  rw[Qb (b:=out) (by simp_all[xd])];rfl
 |k+1,out,h=>by
  have hdl:=c.defs;have hn:=bh2 c (out:=out) U;have hal:=Rn s;unfold Xx
  cases hf:(p! (Ll s).length).find? (CG (Ll s) out)with
  |none=>
   rw[hf]at hn;dsimp only at hn;rw[Ct (v:=([],9)) (by unfold xd;grind)];rfl
  |some d=>
   rw[hf]at hn;dsimp only at hn;have h2:=sad hf;rw[Eac]at h2;rw[Ke (s':=out++[(d:Int)]) (by unfold xd;rw[J,hn,a!];dsimp only;rw[p6,Od o4];rfl)];exact dS c k (out++[(d:Int)]) o4
theorem UC{s:ek}(hs:J? s):rh s=M (Fx (Ll s)):=by
 grind[rh,Fx,Rn,dS]
theorem zp{s:ek}(hs:J? s):Nf s=M (Fx (Ll s)):=by
 grind[Nf,bt]
theorem OL{g:List (List Int)}:∀(k:Nat) (out:List Int),(∀x∈out,0<=x/\x<(a00 g:Int))->(a00 out+k<=a00 g)->(∀x∈(Xx g k out).1,0<=x/\x<(a00 g:Int))/\(Xx g k out).1.length<=a00 g
 |0,out,h,hl=>⟨h,hl⟩
 |k+1,out,h,hl=>by
  unfold Xx;split
  .rename_i d hf;have h2:=sad hf;rw[Eac]at h2;refine OL k _ (λx hx=>?_) o4
   grind
  simp
theorem PO(g:List (List Int)):(∀x∈(Fx g).1,0<=x/\x<(a00 g:Int))/\(Fx g).1.length<=a00 g:=OL g.length [] (λx hx=>by simp at hx) o0
def FR(n:Nat) (x:Int):Prop:=x = -1\/x = -2\/(0<=x/\x<(n:Int))
theorem ak1{t1:List Int}{out:Int->Int}{l:List Int}{n:Nat}(h:∀x∈l,FR n (out x)):FR n (CU t1 out l):=by
 unfold CU;have hs:=oC (t1:=t1) (out:=out) (l:=l);split
 .exact .inl rfl
 .simp_all
 .exact .inr (.inl rfl)
theorem aV1{t0 t1:List Int}{t2:List Bool}:∀(k:Nat) (i:Int),0<=i->i<(a00 t0:Int)->FR t0.length (oc t0 t1 t2 k i)
 |0,i,_,_=>.inl rfl
 |k+1,i,a,b=>by
  unfold oc;split
  .exact .inr (.inr ⟨a,b⟩)
  .exact ak1 λx hx=>by
    obtain⟨j,rfl,hj,-⟩:=qI hx;exact aV1 k _ U U
theorem S5(t0 t1:List Int) (t2:List Bool):FR t0.length (lU t0 t1 t2):=by
 unfold lU;split
 .exact ak1 λx hx=>by
   obtain⟨j,rfl,hj,-⟩:=qI hx;exact aV1 t0.length _ U U
 .exact .inl rfl
structure ScE (s:ek):Prop where
 ok:J? s
 n:∀r∈s.f,(∀n∈r.ak,cc n)/\(∀n∈r.Value,cc n)
variable {s:ek}
def DU:ri:=⟨0,0,0,0⟩
theorem kV(A:ScE s) (he:w? env) (m d:Int):∃p,Af s env m d=M p/\Aw s env m d=M p/\(p.2.Code=0->FR s.f.length p.1):=by
 have hr:=A.ok.rules;unfold Af Aw;rw[Su hr,pP hr,a!,a!];obtain⟨hl1,o,g⟩:=Fw (rules:=s.f) (q:=dI d env.z) s.f.length;have hm:=pJ (rules:=s.f) (q:=dI d env.z) s.f.length;unfold YP;generalize (Gf s.f (dI d env.z) s.f.length).2.1=par at g⊢;generalize (Gf s.f (dI d env.z) s.f.length).1=L at o g hm⊢;generalize L.map (HD s)=k;dsimp only;rw[RA U U,a!];have t:=WI (s1:=Jh s env m d (L,par,k)) (s2:=Mu s env m d (L,par,k))
  (λx y=>∃i:Nat,i<=a00 L/\x.2=(i:Int)/\y.2=(i:Int)/\y.1.length=i/\x.1=y.1++k? (a00 L-i) a39) (λx=>(a00 L-x.2).toNat)
  (λx y=>x=y) (λx y=>x=y/\x.2.Code≠0) (by
   rintro⟨a,a2⟩ ⟨b,b2⟩ ⟨i,i1,B,C,E,D⟩;dsimp only at B C E D;subst B;subst C;subst D;unfold Jh Mu;dsimp only;by_cases hi:i<a00 L
   case neg=>
    rw[p6,p6]
    simp_all
   have hx:=hm _ (y! hi);rw[J,J,va hi];simp only[a!];generalize L[i]=x at hx⊢;rw[nh hx.1 hx.2.1];simp only[a!];have e:s.f[x.toNat]' U∈s.f:=y! _;generalize s.f[x.toNat]' U=r at e;have hN:=(A.n r e).1;have step:∀v:Bool,(b? (α:=((List Bool)⊕(Ex (List Bool×Int) (List Bool) (Int×ri)))) ((c! (b++k? (a00 L-i) a39) (i:Int)).bind λx13=>(put (b++k? (a00 L-i) a39) (i:Int) v).bind λw=>M (Sum.inl w)) λz=>match z with|.inr v=>M v|.inl f=>M (i! (f,(aa .i64 ((i:Int)+1)))))=M (.go ((b++[v])++k? (a00 L-(i+1)) a39,((i+1:Nat):Int))):=by
    intro v;rw[va l5,a!,oE l5,a!,a!];dsimp only;rw[pa U,Qac _ _ U,show i-b.length=0 by omega,show L.length-i=(a00 L-(i+1))+1 by omega,Υ,fac];simp
   have step2:∀v:Bool,(b? (α:=((List Bool)⊕(Ex (List Bool×Int) (List Bool) (Int×ri)))) ((app 1 b ([v])).bind λu=>M (Sum.inl u)) λz=>match z with|.inr v=>M v|.inl f=>M (i! (f,(aa .i64 ((i:Int)+1)))))=M (.go (b++[v],((i+1:Nat):Int))):=by
    grind[Od,pa]
   by_cases j:(a00 r.ak:Int)=0
   .rw[J j,J j];exact .inl ⟨_,_,step a38,step2 a38,⟨i+1,U,rfl,rfl,l5,rfl⟩,U⟩
   .rw[p6 j,p6 j];obtain⟨p,F,G,p3⟩:=eR hN he;rw[F,G,a!,a!];by_cases hc:p.2=0
    .rw[p6 (v!.2 hc),p6 (v!.2 hc)];exact .inl ⟨_,_,step _,step2 _,⟨i+1,U,rfl,rfl,l5,rfl⟩,U⟩
    simp_all) L.length (k? L.length a39,0) (([]:List Bool),0) U ⟨0,L! _,rfl,rfl,rfl,o0⟩
 rcases t with⟨x,y,g1,g2,rfl⟩|⟨x,y,g1,g2,rfl,g3⟩
 .rw[g1,g2,a!,a!];dsimp only;rw[Gw,nP];simp only[a!];have c:=S5 par k x;generalize lU par k x=v at c;by_cases hv:v<0
  .rw[J hv];refine⟨_,rfl,rfl,λ_=>?_⟩;rcases c with h|h|h
   .exact .inl h
   .exact .inr (.inl h)
   omega
  .rw[p6 hv,nh U (by rcases c with h|h|h<;>omega),a!];have:=hm _ (y! (l:=L) (n:=v.toNat) (by rcases c with h|h|h<;>omega));exact⟨_,rfl,rfl,λ_=>.inr (.inr ⟨this.1,this.2.1⟩)⟩
 simp_all
def K6(v:bz):Prop:=v=⟨0,0,0⟩\/Ia v
structure O? (n:Nat) (v:List bz) (r:List Int):Prop where
 vl:v.length=n
 rl:r.length=n
 vp:∀x∈v,K6 x
variable {n:Nat}{r:Int}{v:Int->bz×Int}
theorem ε{l:List α}{i:Nat}{x y:α}(h:y∈l.set i x):y=x\/y∈l:=by
 grind
theorem JP(u:ScE s) (he:w? env) (hw:w.length=a00 s.d) (m:Int) :
 (∃v r,Da s env m w=M ((r,DU),{ env with d:=v })/\Vk s env m w=M (v,r,DU)/\O? s.d.length v r)\/
 ∃e d,e.Code≠0/\Da s env m w=M (([],e),d)/\Vk s env m w=M ([],[],e):=by
 have hd:=u.ok.defs;unfold Da Vk;rw[RA U U,RA U U,a!,a!,a!,a!,zp u.ok,UC u.ok,a!,a!];obtain⟨j,t⟩:=PO (Ll s);rw[Rn]at j t;generalize Fx (Ll s)=ord at j t⊢;have z:=WI (s1:=Ic s env m w ord) (s2:=lr s env m w ord)
  (λx y=>x=y/\∃i:Nat,i<=a00 ord.1/\x.2.2=(i:Int)/\O? s.d.length x.1 x.2.1) (λx=>(a00 ord.1-x.2.2).toNat)
  (λx y=>x=y/\O? s.d.length x.1 x.2) (λx y=>∃e d,x=(([],e),d)/\y=([],[],e)/\e.Code≠0) (by
   rintro⟨a,b,c⟩ y ⟨rfl,i,i1,G,A,B,C⟩;dsimp only at G A B C;subst G;unfold Ic lr;dsimp only;by_cases hi:i<a00 ord.1
   case neg=>
    rw[p6,p6];exact .inr (.inl ⟨_,_,rfl,rfl,rfl,A,B,C⟩)
   have hx:=j _ (y! hi);rw[J,J,va hi];simp only[a!];generalize ord.1[i]=x at hx⊢;rw[nh (l:=w) hx.1 U];simp only[a!];by_cases f:w[x.toNat]' U=a39
   .rw[J f,J f];simp only[a!];rw[pa U];exact .inl ⟨_,_,rfl,rfl,⟨rfl,i+1,U,rfl,A,B,C⟩,o4⟩
   rw[p6 f,p6 f];have o:w? (ic.mk env.z env.w a env.s env.av env.Tables):=⟨he.tabs,he.mem⟩;obtain⟨p,H,I,j9⟩:=kV u o m x;unfold Nz;rw[H,I];simp only[a!];by_cases hc:p.2.Code=0
   case neg=>
    simp_all
   rw[p6 (v!.2 hc),p6 (v!.2 hc)];by_cases D:p.1 = -1
   .simp_all
   rw[p6 D,p6 D];by_cases h2:p.1 = -2
   .simp_all
   rw[p6 h2,p6 h2];have E:0<=p.1/\p.1<(a00 s.f:Int):=by
    rcases j9 hc with h|h|h
    all_goals omega
   rw[nh E.1 E.2];simp only[a!];have g:s.f[p.1.toNat]' U∈s.f:=y! _;generalize s.f[p.1.toNat]' U=r at g;obtain⟨q,q1,K,L⟩:=eR (u.n r g).2 o;rw[q1,K];simp only[a!];by_cases hq:q.2=0
   case neg=>
    simp_all
   rw[p6 (v!.2 hq),p6 (v!.2 hq)];simp only[a!,not_true,u4];obtain⟨k,rfl⟩:=V' hx.1;rw[va U,a!,oE U,a!,va U,a!,oE U];simp only[a!];rw[pa U];refine .inl ⟨_,_,rfl,rfl,⟨rfl,i+1,U,rfl,?_,?_,?_⟩,o4⟩
   .grind
   .grind
   .intro y F;rcases ε F with rfl|F
    .exact .inr (L hq)
    simp_all) ord.1.length (k? s.d.length ⟨0,0,0⟩,k? s.d.length 0,0) (k? s.d.length ⟨0,0,0⟩,k? s.d.length 0,0) o0 ⟨rfl,0,L! _,rfl,o0,o0,λx hx=>.inl (yac hx)⟩
 rcases z with⟨x,y,g1,g2,rfl,g3⟩|⟨x,y,g1,g2,e,d,rfl,rfl,g3⟩
 .rw[g1,g2];exact .inl ⟨x.1,x.2,rfl,rfl,g3⟩
 simp_all
theorem at0(u:ScE s) (he:w? env) (m d:Int):∃p,Af s env m d=M p/\(p.2.Code=0->FR s.f.length p.1):=by
 have hr:=u.ok.rules;unfold Af;rw[Su hr,a!];obtain⟨hl1,f,e⟩:=Fw (rules:=s.f) (q:=dI d env.z) s.f.length;have hm:=pJ (rules:=s.f) (q:=dI d env.z) s.f.length;unfold YP;generalize (Gf s.f (dI d env.z) s.f.length).2.1=par at e⊢;generalize (Gf s.f (dI d env.z) s.f.length).1=L at f e hm⊢;generalize L.map (HD s)=k;dsimp only;rw[RA U U,a!];have g:=NR (s:=Jh s env m d (L,par,k))
  (λx=>∃i:Nat,i<=a00 L/\x.2=(i:Int)/\x.1.length=a00 L) (λx=>(a00 L-x.2).toNat)
  (λx=>x.length=a00 L) (λx=>x.2.Code≠0) (by
   rintro⟨a,a2⟩ ⟨i,i1,w,y⟩;dsimp only at w y;subst w;unfold Jh;dsimp only;by_cases hi:i<a00 L
   case neg=>
    grind
   have hx:=hm _ (y! hi);rw[J,va hi];simp only[a!];generalize L[i]=x at hx⊢;rw[nh hx.1 hx.2.1];simp only[a!];have c:s.f[x.toNat]' U∈s.f:=y! _;generalize s.f[x.toNat]' U=r at c;have hN:=(u.n r c).1;have step:∀v:Bool,(b? (α:=((List Bool)⊕(Ex (List Bool×Int) (List Bool) (Int×ri)))) ((c! a (i:Int)).bind λx13=>(put a (i:Int) v).bind λo=>M (Sum.inl o)) λz=>match z with|.inr v=>M v|.inl j=>M (i! (j,(aa .i64 ((i:Int)+1)))))=M (.go (a.set i v,((i+1:Nat):Int))):=by
    intro v;rw[va U,a!,oE U,a!,a!]
    grind[pa]
   by_cases t:(a00 r.ak:Int)=0
   .rw[J t];exact .inl ⟨_,step a38,⟨i+1,U,rfl,l5⟩,U⟩
   .rw[p6 t];obtain⟨p,A,p3⟩:=ax1 hN he;rw[A,a!];by_cases hc:p.2=0
    .rw[p6 (v!.2 hc)];exact .inl ⟨_,step _,⟨i+1,U,rfl,l5⟩,U⟩
    simp_all) (x:=(k? L.length a39,0)) ⟨0,L! _,rfl,o0⟩
 rcases g with⟨x,g1,g2⟩|⟨x,g1,g3⟩
 .rw[g1,a!];dsimp only;rw[Gw];simp only[a!];have b:=S5 par k x;generalize lU par k x=v at b;by_cases hv:v<0
  .rw[J hv];refine⟨_,rfl,λ_=>?_⟩;rcases b with h|h|h
   .exact .inl h
   .exact .inr (.inl h)
   omega
  .rw[p6 hv,nh U (by rcases b with h|h|h<;>omega),a!];have:=hm _ (y! (l:=L) (n:=v.toNat) (by rcases b with h|h|h<;>omega));exact⟨_,rfl,λ_=>.inr (.inr ⟨this.1,this.2.1⟩)⟩
 simp_all
theorem R5(u:ScE s) (he:w? env) (hw:w.length=a00 s.d) (m:Int) :
 (∃v r,Da s env m w=M ((r,DU),{ env with d:=v })/\O? s.d.length v r)\/
 ∃e d,e.Code≠0/\Da s env m w=M (([],e),d):=by
 have hd:=u.ok.defs;unfold Da;rw[RA U U,RA U U,a!,a!,zp u.ok,a!];obtain⟨g,o⟩:=PO (Ll s);rw[Rn]at g o;generalize Fx (Ll s)=ord at g o⊢;have z:=NR (s:=Ic s env m w ord)
  (λx=>∃i:Nat,i<=a00 ord.1/\x.2.2=(i:Int)/\O? s.d.length x.1 x.2.1) (λx=>(a00 ord.1-x.2.2).toNat)
  (λx=>O? s.d.length x.1 x.2) (λx=>∃e d,x=(([],e),d)/\e.Code≠0) (by
   rintro⟨a,b,c⟩ ⟨i,i1,F,A,B,C⟩;dsimp only at F A B C;subst F;unfold Ic;dsimp only;by_cases hi:i<a00 ord.1
   case neg=>
    rw[p6];exact .inr (.inl ⟨_,rfl,A,B,C⟩)
   have hx:=g _ (y! hi);rw[J,va hi];simp only[a!];generalize ord.1[i]=x at hx⊢;rw[nh (l:=w) hx.1 U];simp only[a!];by_cases t:w[x.toNat]' U=a39
   .rw[J t];simp only[a!];rw[pa U];exact .inl ⟨_,rfl,⟨i+1,U,rfl,A,B,C⟩,o4⟩
   rw[p6 t];have j:w? (ic.mk env.z env.w a env.s env.av env.Tables):=⟨he.tabs,he.mem⟩;obtain⟨p,H,I⟩:=at0 u j m x;rw[H];simp only[a!];by_cases hc:p.2.Code=0
   case neg=>
    simp_all
   rw[p6 (v!.2 hc)];by_cases G:p.1 = -1
   .simp_all
   rw[p6 G];by_cases h2:p.1 = -2
   .simp_all
   rw[p6 h2];have D:0<=p.1/\p.1<(a00 s.f:Int):=by
    rcases I hc with h|h|h
    all_goals omega
   rw[nh D.1 D.2];simp only[a!];have f:s.f[p.1.toNat]' U∈s.f:=y! _;generalize s.f[p.1.toNat]' U=r at f;obtain⟨q,q1,j9⟩:=ax1 (u.n r f).2 j;rw[q1];simp only[a!];by_cases hq:q.2=0
   case neg=>
    simp_all
   rw[p6 (v!.2 hq)];obtain⟨k,rfl⟩:=V' hx.1;rw[va U,a!,oE U,a!,va U,a!,oE U];simp only[a!];rw[pa U];refine .inl ⟨_,rfl,⟨i+1,U,rfl,?_,?_,?_⟩,o4⟩
   .grind
   .grind
   .intro y E;rcases ε E with rfl|E
    .exact .inr (j9 hq)
    simp_all) (x:=(k? s.d.length ⟨0,0,0⟩,k? s.d.length 0,0)) ⟨0,L! _,rfl,o0,o0,λx hx=>.inl (yac hx)⟩
 rcases z with⟨x,g1,g3⟩|⟨x,g1,e,d,rfl,g3⟩
 .rw[g1];exact .inl ⟨x.1,x.2,rfl,g3⟩
 simp_all
theorem VB(a:0<=x) (h1:x<(n:Int)):put ((p! n).map f) x a38=M ((p! n).map λk=>f k || s6 (x=(k:Int))):=by
 obtain⟨j,rfl⟩:=V' a;rw[oE l5];congr 1;apply bac
 all_goals grind
theorem Yx{f:Nat->α}(h0:0<=x) (h1:x<(n:Int)):c! ((p! n).map f) x=M (f x.toNat):=by
 grind[nh]
theorem SR{l:List Int}(hl:l.length<=1048576) (hm:∀x∈l,0<=x/\x<(n:Int)) (f:Nat->Bool) 
 (c:∀a b,step (a,b)=if b<(a00 l:Int)then(c! l b).bind λx=>(c! a x).bind λ_=>(put a x a38).bind λq=>M (.go (q,aa .i64 (b+1)))else M (.brk a)) :
 ca step ((p! n).map f,0)=M (.inl ((p! n).map λk=>f k || l.contains (k:Int))):=by
 refine Nc (λi=>((p! n).map (λk=>f k || (l.take i).contains (k:Int)),(i:Int))) l.length _ (λi hi=>?_) ?_ o0
 .have hx:=hm _ (y! hi);rw[c,J,va hi,a!,Yx hx.1 hx.2,a!,VB hx.1 hx.2,a!,pa U,N!,n! hi]
  grind
 simp_all
theorem YC(n:Nat):k? n a39=(p! n).map λ_=>a39:=by
 apply bac<;>simp
def wB(s:ek) (d x:Int):Bool:=s6 (d=x) || (mG s d s.d.length).contains x
theorem B1:wB s d x=a38↔d=x\/Way s d x:=by
 simp_all[wB,qB]
theorem pG(h:Way s d x):0<=x/\x<(a00 s.d:Int):=by
 cases h with
 |one h=>exact h.2.1
 |step _ h=>exact h.2.1
def XD(r:kv):List Int:=wD yy r.ak++wD yy r.Value
def QA(s:ek) (d:Int):List Int:=Yd ((s.f.filter λ(r:kv)=>wB s d r.u).flatMap XD)
theorem oO{l:List kv}(a:∀r∈l,a00 r.ak<=1048576/\r.Value.length<=1048576) {p:kv->Bool}:((l.filter p).flatMap XD).length<=2097152*a00 l:=by
 induction l with
 |nil=>simp
 |cons r l b=>
  have:=b λx hx=>a x o4
  grind[XD,ct]
theorem bB(c:J? s) (hd:0<=d/\d<(a00 s.d:Int)):lj s d=M (QA s d):=by
 have h1:=c.defs;have h2:=c.rules;obtain⟨l,hl,j,f⟩:=bm c d;unfold bd at hl;rw[J,a!,p6 l5]at hl;unfold lj;rw[J,a!,p6 l5,RA U U,a!,YC,Yx hd.1 hd.2,a!,VB hd.1 hd.2,a!]
 cases ha:jd s with
 |none=>simp_all
 |some g=>
  rw[ha,a!]at hl;rw[a!]
  cases hr:cm g d with
  |none=>simp_all
  |some l'=>
   rw[hr,a!]at hl;obtain rfl:=J' hl;rw[a!,SR j (λx hx=>pG ((f x).1 hx)) _ (λa b=>by grind[Pu]),a!];dsimp only;have hw:((p! s.d.length).map λ(k:Nat)=>(a39 || s6 (d=(k:Int))) || l'.contains (k:Int))=(p! s.d.length).map λ(k:Nat)=>wB s d (k:Int):=by
    apply oac;intro k _;unfold wB;rw[Bool.false_or];congr 1;rw[Sac,Ν,Ν,f,qB]
   rw[hw];have m:ca (ik s ((p! s.d.length).map λ(k:Nat)=>wB s d (k:Int))) (([]:List Int),0)=M (.inl ((s.f.filter λ(r:kv)=>wB s d r.u).flatMap XD)):=by
    refine Nc (λi=>(((s.f.take i).filter λ(r:kv)=>wB s d r.u).flatMap XD,(i:Int))) s.f.length _ (λi hi=>?_) ?_ rfl
    .have hr:=c.g _ (y! hi);have hb:=oO (l:=s.f.take i) (λr hr=>c.g r (Rab hr)) (p:=λ(r:kv)=>wB s d r.u);have h5:(s.f.take i).length<=1048576:=o4
     have q:=ct (p:=yy) (e:=s.f[i].ak);have t:=ct (p:=yy) (e:=s.f[i].Value);unfold ik;dsimp only;rw[J,va hi,a!,pa U,N!,n! hi];simp only[Bab,δ,Cae];generalize s.f[i]=r at hr q t⊢;generalize ((s.f.take i).filter λ(r:kv)=>wB s d r.u).flatMap XD=acc at hb⊢;have hc:(if¬r.u<0 then if¬(a00 s.d:Int)<=r.u then(c! ((p! s.d.length).map λ(k:Nat)=>wB s d (k:Int)) r.u).bind λo=>M (!o)else M a38 else M a38)=M (!wB s d r.u):=by
      by_cases g1:0<=r.u
      .by_cases g2:r.u<(a00 s.d:Int)
       .rw[J,J,Yx g1 g2,a!]
        grind
       .rw[J,p6];have:wB s d r.u=a39:=by
         rw[←Xac,B1];rintro(h|h)
         .omega
         .have:=pG h;omega
        simp_all
      .rw[p6];have:wB s d r.u=a39:=by
        rw[←Xac,B1];rintro(h|h)
        .omega
        .have:=pG h;omega
       simp_all
     rw[hc,a!];cases n:wB s d r.u
     .simp[n]
     .rw[p6 o0,dr U,a!,dr U,a!]
      grind[Qo,XD,Od]
    simp_all[ik]
   rw[m,a!];dsimp only;have hb:=oO (l:=s.f) c.g (p:=λ(r:kv)=>wB s d r.u);rw[wC U];rfl
theorem PY(a b:List Int):Yd (a++b)=b.foldl qm (Yd a):=by grind[Yd]
theorem RG{l a:List Int}:(l.foldl qm a).length<=a00 a+a00 l:=by
 induction l generalizing a with
 |nil=>simp
 |cons x l ih=>
  grind[fF]
theorem cW{l a:List Int}(h:a.length+a00 l<=1099511627) {step:List Int×Int->Option (Ex (List Int×Int) (List Int) Unit)}
 (c:∀x b,step (x,b)=if b<(a00 l:Int)then(c! l b).bind λy=>(Ag x y).bind λq=>M (.go (q,aa .i64 (b+1)))else M (.brk x)):ca step (a,0)=M (.inl (l.foldl qm a)):=by
 refine Nc (λi=>((l.take i).foldl qm a,(i:Int))) l.length _ (λi hi=>?_) ?_ rfl
 .have hb:=RG (l:=l.take i) (a:=a);have h2:(l.take i).length<=a00 l:=o4
  rw[c,J,va hi,a!,yw U,a!,pa U,N!,n! hi]
  grind
 simp_all
theorem JH(g:J? s) (hfew:s.f.length<=64) (j:∀r∈s.f,a00 r.ak<=1048576/\r.Value.length<=1048576) (hd:0<=d/\d<(a00 s.d:Int)):Jo s d=M (QA s d):=by
 have h1:=g.defs;have h2:=g.rules;have htl:=(DB s d s.d.length).len;unfold Jo;rw[GD,a!,p6 l5,Pp g,a!,yw U,a!];have c:∀x,Dv (qm (mG s d s.d.length) d) x=M (wB s d x):=by
  intro x;have:=fF (l:=mG s d s.d.length) (n:=d);rw[yB U];congr 1;rw[Sac,Ν,LC,B1,qB]
  grind
 have hlp:ca (Gi s (qm (mG s d s.d.length) d)) (([]:List Int),0)=M (.inl (QA s d)):=by
  refine Nc (λi=>(Yd (((s.f.take i).filter λ(r:kv)=>wB s d r.u).flatMap XD),(i:Int))) s.f.length _ (λi hi=>?_) ?_ rfl
  .have hr:=j _ (y! hi);have hb:=oO (l:=s.f.take i) (λr hr=>j r (Rab hr)) (p:=λ(r:kv)=>wB s d r.u);have h5:(s.f.take i).length<=64:=o4
   have k:=ct (p:=yy) (e:=s.f[i].ak);have m:=ct (p:=yy) (e:=s.f[i].Value);have f:=(Of (((s.f.take i).filter λ(r:kv)=>wB s d r.u).flatMap XD)).2.1;unfold Gi;dsimp only;rw[J,va hi,a!,c,a!,pa U,N!,n! hi];simp only[Bab,δ,Cae];generalize s.f[i]=r at hr k m⊢;generalize ((s.f.take i).filter λ(r:kv)=>wB s d r.u).flatMap XD=acc at hb f⊢;cases h:wB s d r.u
   .simp[h]
   .rw[p6 o0,Gp U,a!,Gp U,a!];have e1:=cW (l:=(Qo r.ak).2.2) (a:=Yd acc) (by grind[Qo]) (step:=Im (Qo r.ak)) (λa b=>by grind[Im]);rw[e1,a!];dsimp only;have h6:=RG (l:=(Qo r.ak).2.2) (a:=Yd acc);have e2:=cW (l:=(Qo r.Value).2.2) (a:=(Qo r.ak).2.2.foldl qm (Yd acc)) (by grind[Qo]) (step:=Hm (Qo r.Value)) (λa b=>by grind[Hm])
    simp_all[XD,Qo,PY]
  .unfold Gi;dsimp only;rw[p6,ν];rfl
 simp_all
theorem rng{c:Int}:(if¬a<b then M (s6 (c<a))else M a38)=M (s6 (a<b) || s6 (c<a)):=by
 grind
theorem gS(a b c:Int):jg a b c=M (s6 (a<b) || s6 (c<a)):=by
 grind[jg]
theorem aQ9(c:ve):Jc c=dw c:=by
 funext s;unfold Jc dw;split
 .cases c! c.as s<;>rfl
 .rfl
theorem bq7(c:ve):re c=Av c:=by
 grind[re,Av,aQ9]
theorem aZ4{c:ve}(h:c.as.length<=1048576):∃b,re c=M b:=by
 have hs:∀i:Nat,i<a00 c.as->Jc c (i:Int)=M (.ret a39)\/Jc c (i:Int)=M (.go (aa .i64 ((i:Int)+1))):=by
  intro i hi;unfold Jc;rw[J,va hi,a!];unfold ij;generalize c.as[i]=x;by_cases h1:0<=x
  .by_cases h2:x<=109572
   .by_cases h3:0<i
    .obtain⟨k,rfl⟩:∃k,i=k+1:=⟨i-1,U⟩
     grind[f?,va]
    simp_all
   grind
  grind
 classical
 unfold re;rw[show(if¬c.a5<0 then if¬126<c.a5 then M (s6 (64<(a00 c.as:Int)))else M a38 else M a38)=M (s6 (c.a5<0) || (s6 (126<c.a5) || s6 (64<(a00 c.as:Int)))) by
  grind,a!]
 split
 .simp
 .rcases mI h (λi=>s6 (Jc c (i:Int)=M (.ret a39))) (step:=Jc c) (λi hi=>by
   grind) (by grind[Jc])with g|⟨g,-⟩
  all_goals simp_all
theorem FB{l:cb}(h:(Yo l).Code=0):Yo l=⟨0,0,0,0⟩:=by
 unfold Yo at h⊢;split at h
 .grind
 rename_i c;rw[p6 c];generalize e:ff _ l.r.length=m at h⊢
 cases m with
 |some v=>exact(aG (f:=λi=>match l.r[i]? with|some x=>if(Qh l i x).1=0 then s5 else M (⟨(Qh l i x).1,1,(i:Int),(Qh l i x).2⟩:ll)|none=>s5) XY e h).elim
 |none=>
 dsimp only at h⊢;split at h
 .grind
 rename_i h2;rw[p6 h2];generalize g:ff _ l.Tables.length=n at h⊢
 cases n with
 |some v=>exact(aG (f:=λi=>match l.Tables[i]? with|some x=>if(yr l i x).1=0 then s5 else M (⟨(yr l i x).1,2,(i:Int),(yr l i x).2⟩:ll)|none=>s5) U0 g h).elim
 |none=>
 dsimp only at h⊢;split at h
 .grind
 rename_i d;rw[p6 d];generalize hf:ff _ l.e.length=o at h⊢
 cases o with
 |none=>rfl
 |some v=>
  rw[κ]at h;obtain⟨k,j,a,-⟩:=Qa.1 hf;rw[n! j]at a;dsimp only at a;split at a
  .grind
  .injection a with a;subst a;rename_i b;exact(b h).elim
theorem sV{l:cb}(a:D! l) {i k:Nat}(hi:i<a00 l.e) (hk:k<l.e[i].d.length):la l.e[i].d[k].ao l.r=a38:=by
 have h:=a.s i hi;generalize l.e[i]=x at h hk⊢;unfold kl at h
 repeat' split at h
 all_goals first|(simp at h;done)|skip
 .rename_i v hv;exact(QG sZ hv h).elim
 .rename_i v hv;exact(QG dT hv h).elim
 .rename_i v hv;exact(QG gU hv h).elim
 .rename_i hd _ _;have:=db.1 hd k hk
  grind[fM,eA]
theorem F7{l:cb}(h:m? l) {c:ma}(hc:c.au.as.length<=1048576) (sc:Int):∃n,Ja l sc c=M n/\Xb l sc c=M n:=by
 have key:Ja l sc c=Xb l sc c/\∃n,Xb l sc c=M n:=by
  unfold Ja Xb Bu;rw[wk h,VC h];simp only[a!];by_cases hv:(Yo l).Code=0
  .have m:=NF hv;rw[FB hv];simp only[not_true_eq_false,u4,and_self,beq_self_eq_true,P!];obtain⟨b,hb⟩:=aZ4 hc;have d:Av c.au=M b:=by grind[bq7]
   by_cases e:sc<0
   .grind
   by_cases h2:(a00 l.e:Int)<=sc
   .grind
   by_cases f:c.u<0
   .grind
   obtain⟨i,rfl⟩:∃i:Nat,sc=(i:Int):=⟨sc.toNat,U⟩;have hi:i<a00 l.e:=U
   rw[J e,J h2,J f,va hi,a!,a!];by_cases h4:(l.e[i].d.length:Int)<=c.u
   .grind
   obtain⟨k,hk⟩:∃k:Nat,c.u=(k:Int):=⟨c.u.toNat,U⟩;have a:k<l.e[i].d.length:=U
   rw[show s6 ((l.e[i].d.length:Int)<=c.u)=a39 by simp_all];have ht:=sV m hi a;simp only[hk,va a,a!,t!,u4];generalize l.e[i].d[k].ao=t at ht⊢;by_cases g:t.a=3
   .have j:t.g=0:=by
     simp_all[la]
    simp only[g,j,and_self,not_true_eq_false,u4,gS,rng,hb,d,a!]
    grind
   simp_all
  simp_all
 simp_all
theorem oV{l:cb}(h:m? l) {c:ma}(hc:c.au.as.length<=1048576) (sc:Int):∃n,Ja l sc c=M n:=by
 have key:∃n,Ja l sc c=M n:=by
  unfold Ja;rw[wk h];simp only[a!];by_cases hv:(Yo l).Code=0
  .have s:=NF hv;rw[FB hv];simp only[not_true_eq_false,u4,and_self,beq_self_eq_true,P!];obtain⟨b,hb⟩:=aZ4 hc;by_cases d:sc<0
   .simp[d]
   by_cases h2:(a00 l.e:Int)<=sc
   .simp[d,h2]
   by_cases e:c.u<0
   .simp[d,h2,e]
   obtain⟨i,rfl⟩:∃i:Nat,sc=(i:Int):=⟨sc.toNat,U⟩;have hi:i<a00 l.e:=U
   rw[J d,J h2,J e,va hi,a!,a!];by_cases p:(l.e[i].d.length:Int)<=c.u
   .simp[p]
   obtain⟨k,hk⟩:∃k:Nat,c.u=(k:Int):=⟨c.u.toNat,U⟩;have a:k<l.e[i].d.length:=U
   rw[show s6 ((l.e[i].d.length:Int)<=c.u)=a39 by simp_all];have ht:=sV s hi a;simp only[hk,va a,a!,t!,u4];generalize l.e[i].d[k].ao=t at ht⊢;by_cases q:t.a=3
   .have r:t.g=0:=by
     simp_all[la]
    simp only[q,r,and_self,not_true_eq_false,u4,rng,hb,a!];by_cases g1:c.aw<0
    .simp[g1]
    by_cases g2:5<c.aw
    .simp_all
    rw[J g1,J g2];simp only[g1,g2,G1,Bool.or_self,D1,a!];cases b
    .simp
    simp only[Φ,t!,u4];generalize (s6 (c.bc<1) || s6 (28<c.bc))=f;generalize (s6 (c.bb<0) || s6 (1000000<c.bb))=g;generalize (s6 (c.a6<0) || s6 (1000000000000000<c.a6))=j;generalize (s6 (c.aj<0) || s6 (3599<c.aj))=m;generalize (s6 (c.ba<0) || s6 (365<c.ba))=o;cases f<;>cases g<;>cases j<;>cases m<;>cases o<;>simp
   simp_all
  simp_all
 omega
theorem D!.rule{l:cb}(a:D! l) {i k:Nat}(hi:i<a00 l.e) (hk:k<l.e[i].f.length):EF l.e[i] (xJ l l.e[i]) k l.e[i].f[k]=0:=by
 have h:=a.s i hi;generalize l.e[i]=x at h hk⊢;unfold kl at h
 repeat' split at h
 all_goals first|(simp at h;done)|skip
 .rename_i v hv;exact(QG sZ hv h).elim
 .rename_i v hv;exact(QG dT hv h).elim
 .rename_i v hv;exact(QG gU hv h).elim
 simp_all[AP,db]
theorem D!.few{l:cb}(a:D! l) {i:Nat}(hi:i<a00 l.e):TB l i l.e[i]=a39/\l.e[i].w.length<=12/\l.e[i].d.length<=12:=by
 have h:=a.s i hi
 grind[kl]
theorem ZP{s:pr}(h:HJ e s t=0):(EB e s).2.2=0:=by
 grind[HJ]
theorem fX{x:ek}{s:pr}{k:Nat}{r:kv}(h:EF x s k r=0):(0<a00 r.ak->(EB r.ak s).2.2=0)/\(EB r.Value s).2.2=0:=by
 unfold EF at h;split at h
 .omega
 split at h
 .omega
 split at h
 .omega
 split at h
 .omega
 split at h
 .omega
 split at h
 .omega
 split at h
 .omega
 split at h
 .omega
 .rename_i h2;refine⟨λhl=>?_,ZP h⟩;exact ZP (t:=⟨1,0⟩) (Wad λa=>h2 ⟨hl,a⟩)
theorem aD8{ops:List ej}{s:pr}(h:36<=op/\op<=39) {p:ej×Int}(hr:eb ⟨op,N⟩ ops s=M p) (a:p.2=0):0<=N/\N<(a00 s.az:Int):=by
 rcases Decidable.em (0<=N/\N<(a00 s.az:Int))with hc|hc
 .omega
 exfalso;have hu:=La (op:=op) U;have c:Yc op=a38:=by grind[Yc]
 unfold eb wa Pg Dc at hr;simp only[hu,c,Ua,nj,DC]at hr;by_cases d:N<0
 .rcases(by omega:op=36\/op=37\/op=38\/op=39)with h|h|h|h<;>subst h<;>cases b:s.a9<;>simp[b,d]at hr<;>(rw[←hr]at a;simp at a)
 .have e:(a00 s.az:Int)<=N:=U
  rcases(by omega:op=36\/op=37\/op=38\/op=39)with h|h|h|h<;>subst h<;>cases b:s.a9<;>simp[b,d,e]at hr<;>(rw[←hr]at a;simp at a)
theorem ω{s:pr}(hN:∀n∈e,cc n) (h:(EB e s).2.2=0):∀n∈e,yy n=a38->0<=n.N/\n.N<(a00 s.az:Int):=by
 unfold EB at h;split at h
 case isFalse h2=>simp_all
 rename_i c;have hw:=fL c;have hn:ff (LG e s) e.length=s5:=by
  grind[LG,Qa]
 intro n a hm;obtain⟨j,hj,rfl⟩:=H' a;have ht:=db.1 hn j hj;obtain⟨-,-,h39⟩:=hw.ar hj;unfold LG at ht;split at ht
 case isFalse=>grind
 rename_i d;have hr:=MO hw hN hj (λi hi=>db.1 hn i U);rw[Nn hj];rw[Nn hj]at hm;have b:36<=(sd e j).Op/\(sd e j).Op<=39:=by
  grind[yy]
 have hres:=aD8 (op:=(sd e j).Op) (N:=(sd e j).N) b hr d;omega
theorem IP{l:cb}(h:m? l) {x:ek}(hx:x∈l.e):ScE x:=by
 obtain⟨-,g2,-,-,-,a⟩:=h.s x hx;exact⟨g2,λr hr=>(a r hr).2.2⟩
theorem cC5{e:List nb}(hk:t.a=4):-1000000000<=(xU t e).1/\(xU t e).2<=1000000000:=by
 have hb:=Cl t e;unfold Xc at hb;rw[Ua,a!]at hb
 grind
theorem D!.rowsN{l:cb}(h:D! l):∀t∈l.Tables,a00 t.Rows<=150/\(t.Value.a=4->ι t):=by
 intro t ht;have h64:=h.rows t ht;refine⟨U,λhk=>⟨U,λr hr=>?_⟩⟩;obtain⟨i,hi,rfl⟩:=H' ht;have:=h.t i hi;generalize l.Tables[i]=t at *;unfold yr at this;split at this
 .omega
 split at this
 .omega
 split at this
 case isFalse h2=>omega
 rename_i h2;unfold dv at h2;rw[p6]at h2;split at h2
 .omega
 have hn:ff (UK t l.r) t.Rows.length=s5:=by
  cases hf:ff (UK t l.r) t.Rows.length with
  |none=>rfl
  |some v=>
   rw[hf]at h2;obtain⟨k,_,h3,_⟩:=Qa.1 hf
   grind[UK]
 obtain⟨k,b,rfl⟩:=H' hr;have c:=db.1 hn k b;unfold UK at c;rw[n! b]at c;dsimp only at c;split at c
 .grind
 rename_i hw;unfold eL at hw;have a:YV t.Rows[k].N t.Value l.r=a38:=by
  simp_all
 unfold YV at a;simp only[E!,w3]at a;have:=cC5 (t:=t.Value) (e:=l.r) hk;omega
theorem CI{l:cb}(h:D! l) (ht:env.Tables=l.Tables) (hm:env.s.length<=1048576):w? env:=⟨by rw[ht];exact h.rowsN,hm⟩
def BG(l:cb) (x:ek):ek:=if h:0<=x.ac/\x.ac<(a00 l.e:Int)then l.e[x.ac.toNat]' U else⟨n? #[],0,[],[],[]⟩
theorem OT{l:cb}(h:m? l) (x:ek):ScE (BG l x):=by
 unfold BG;split
 .grind[IP]
 .exact⟨⟨o0,o0,o0⟩,o0⟩
theorem EH{l:cb}(hl:m? l) (j:D! l) {i:Nat}(hi:i<a00 l.e) :∀m∈QA l.e[i] d,0<=m/\m<((BG l l.e[i]).d.length:Int):=by
 intro m hm;have hx:=IP hl (y! hi);unfold QA at hm;rw[(Of _).2.2,List.mem_flatMap]at hm;obtain⟨r,hr,hm⟩:=hm;have hr:=(tac.1 hr).1;obtain⟨k,hk,rfl⟩:=H' hr;have ht:=fX (j.rule hi hk);have hn:=hx.n _ (y! hk);have a:((xJ l l.e[i]).az.length:Int)=((BG l l.e[i]).d.length:Int):=by
  grind[xJ,BG]
 rw[←a];have of:∀e:List fr,(∀n∈e,cc n)->(EB e (xJ l l.e[i])).2.2=0->m∈wD yy e->0<=m/\m<((xJ l l.e[i]).az.length:Int):=by
  intro e c h2 b;unfold wD at b;rw[(Of _).2.2,V!]at b;obtain⟨n,f,rfl⟩:=b;obtain⟨g,h⟩:=tac.1 f;exact ω c h2 n g h
 grind[XD,wD,Yd,xad]
theorem rW{l:cb}(hl:m? l) (b:D! l) {i:Nat}(hi:i<a00 l.e) :(QA l.e[i] d).length<=1048576:=by
 have h1:=RM (a:=QA l.e[i] d) (lo:=0) (hi:=((BG l l.e[i]).d.length:Int)) (Of _).1 (EH hl b hi);have:=(OT hl l.e[i]).ok.defs;omega
def sQ(f:ka):Prop:=f.Id<0\/(f.ar < -1\/8<=f.ar)\/(f.ap < -1\/12<=f.ap)\/(f.ar = -1/\f.ap = -1)\/VR f.ab=a39\/(f.ah<0\/109572<f.ah)
instance (f:ka):Decidable (sQ f):=by unfold sQ;infer_instance
def NS(f:ka):Prop:=(f.Value.a<1\/6<f.Value.a)\/(f.ap = -1/\¬f.Value.a=1)
instance (f:ka):Decidable (NS f):=by unfold NS;infer_instance
def aM(f:ka):Int:=if sQ f then 3 else if NS f then 8 else 0
theorem cC8{a:Prop} [Decidable a] {b:Bool}:(b? (α:=Bool) (if a then M b else M a39) k)=k (decide a&&b):=by
 grind
theorem orQ{a b:Prop} [Decidable a] [Decidable b] :(b? (α:=Bool) (if¬a then M (decide b)else M a38) k)=k (s6 (a\/b)):=by
 grind
theorem ci0{a b:Prop} [Decidable a] [Decidable b] {x y:α}:(if a then x else if b then x else y)=if a\/b then x else y:=by
 grind
theorem HI(f:ka):oj f=M (aM f):=by
 unfold oj;simp only[orQ,cC8,CC,a!,w3,E!,aaA,bne_iff_ne,ne_eq,ci0];unfold aM;by_cases a:sQ f
 .rw[J a];unfold sQ at a;simp_all
 .rw[p6 a];unfold sQ at a;rw[p6 a];by_cases b:NS f
  .rw[J b];unfold NS at b;simp_all
  .rw[p6 b];unfold NS at b;simp_all
def FI(l:List ka) (i:Nat):Option (Int×Int):=
 match l[i]? with
 |some f=>if¬aM f=0 then M ((i:Int),aM f)else if((l.take i).any λy=>s6 (y.Id=f.Id))=a38 then M ((i:Int),7)else s5
 |none=>s5
def PB(l:List ka):Int×Int:=if 128<(a00 l:Int)then(0,4)else(ff (FI l) l.length).getD (0,0)
theorem ci8{l:List ka}:∀(rest:List ka) (i:Nat) (seen:List Int),l.drop i=rest->(∀x,seen.contains x=(l.take i).any λy=>s6 (y.Id=x))->sg (i:Int) seen rest=M ((ff (λj=>FI l (i+j)) rest.length).getD (0,0))
 |[],i,seen,h,b=>rfl
 |f::rest,i,seen,h,b=>by
  have hi:i<a00 l:=by
   grind[Lac]
  have hf:l[i]=f/\l.drop (i+1)=rest:=by
   grind[lab]
  unfold sg;rw[HI,a!];simp only[ff,G!,Nat.add_zero];have he:FI l i=if¬aM f=0 then M ((i:Int),aM f)else if((l.take i).any λy=>s6 (y.Id=f.Id))=a38 then M ((i:Int),7)else s5:=by
   grind[FI]
  rw[he];by_cases a:aM f=0
  case neg=>simp_all
  rw[p6 (v!.2 a),p6 (v!.2 a),b f.Id];by_cases hd:((l.take i).any λy=>s6 (y.Id=f.Id))=a38
  .simp_all
  .rw[p6 hd,p6 hd];dsimp only;rw[show(i:Int)+1=((i+1:Nat):Int)from rfl,ci8 rest (i+1) (f.Id::seen) hf.2 (λx=>by
    grind)]
   grind
theorem kK(l:List ka):bo l=M (PB l):=by
 unfold bo PB;split
 .rfl
 .have:=ci8 (l:=l) l 0 [] o0 (λx=>o0)
  simp_all
theorem WQ{l:List ka}(hl:l.length<=1048576) {i:Nat}(hi:i<a00 l):Ry l (i:Int)=M (match FI l i with|some v=>v.2|none=>0):=by
 have g:ca (Ls l (i:Int) l[i]) 0=M (Rb () (ff (λj=>if(l[j]?.any λy=>s6 (y.Id=l[i].Id))=a38 then M 7 else s5) i)):=
  Gb (λj=>(j:Int)) _ i () (λj hj _=>by
   unfold Ls;rw[J,va U,n! U]
   grind[mE,pa]) (λ_=>by grind[Ls])
 unfold Ry FI;rw[va hi,a!,n! hi];dsimp only;rw[g];generalize hf:l[i]=f;rw[WC];have hdup:ff (λj=>if(l[j]?.any λy=>s6 (y.Id=f.Id))=a38 then M (7:Int)else s5) i=if((l.take i).any λy=>s6 (y.Id=f.Id))=a38 then M 7 else s5:=by
  cases k:ff (λj=>if(l[j]?.any λy=>s6 (y.Id=f.Id))=a38 then M (7:Int)else s5) i with
  |none=>
   have:((l.take i).any λy=>s6 (y.Id=f.Id))=a39:=by
    rw[Qae];intro y q;obtain⟨j,hj,rfl⟩:=H' q
    grind[db]
   simp_all
  |some v=>
   obtain⟨j,hj,h2,-⟩:=Qa.1 k;split at h2
   .rename_i h;injection h2 with h2;rw[n! U,xac]at h;have:((l.take i).any λy=>s6 (y.Id=f.Id))=a38:=by
     rw[List.any_eq_true];exact⟨l[j]' U,by rw[Zad];grind,h⟩
    simp_all
   simp_all
 have hX:((M (VR f.ab)).bind λn=>if n=a38 then if¬f.ah<0 then M (s6 (109572<f.ah))else M a38 else M a38)=M (s6 (VR f.ab=a39\/(f.ah<0\/109572<f.ah))):=by
  grind
 have hY:(if f.ar=(-1)then if¬f.ap=(-1)then(M (VR f.ab)).bind λn=>if n=a38 then if¬f.ah<0 then M (s6 (109572<f.ah))else M a38 else M a38 else M a38
  else(M (VR f.ab)).bind λm=>if m=a38 then if¬f.ah<0 then M (s6 (109572<f.ah))else M a38 else M a38)=M (s6 ((f.ar = -1/\f.ap = -1)\/VR f.ab=a39\/(f.ah<0\/109572<f.ah))):=by
  grind
 have nest:∀{a b c d e z:Prop} [Decidable a] [Decidable b] [Decidable c] [Decidable d] [Decidable e] [Decidable z],(if¬a then if¬b then if¬c then if¬d then if¬e then M (decide z)else M a38 else M a38 else M a38 else M a38 else M a38)=M (s6 (a\/b\/c\/d\/e\/z)):=by
  grind
 rw[hY,nest,a!];have hb3:(f.Id<0\/f.ar < -1\/7<f.ar\/f.ap < -1\/11<f.ap\/(f.ar = -1/\f.ap = -1)\/VR f.ab=a39\/(f.ah<0\/109572<f.ah))↔sQ f:=by
  unfold sQ
  grind
 have hcond2:(if¬f.Value.a<1 then if¬6<f.Value.a then if f.ap=(-1)then M (f.Value.a !=1)else M a39 else M a38 else M a38)=M (s6 (NS f)):=by
  unfold NS;by_cases o:f.Value.a<1
  .grind
  by_cases h2:6<f.Value.a
  .simp_all
  by_cases h:f.ap = -1<;>by_cases p:f.Value.a=1<;>simp[o,h2,h,p]
 grind[aM,Rb]
theorem aN8{l:List ka}{i:Nat}{v:Int×Int}(h:FI l i=M v):v.1=(i:Int)/\v.2≠0:=by
 unfold FI at h
 grind
theorem PK{l:List ka}(hl:l.length<=1048576):Ks l=M (PB l):=by
 unfold Ks PB;by_cases a:128<(a00 l:Int)
 .simp_all
 rw[p6 a,p6 a];have b:ca (Om l) 0=M (Rb () (ff (FI l) l.length)):=
  Gb (λi=>(i:Int)) _ l.length () (λi hi _=>by
   unfold Om;rw[J,WQ hl hi,a!,pa U]
   grind[FI,mE]) (λ_=>by grind[Om])
 rw[b];cases ff (FI l) l.length<;>rfl
structure ξ (l:List ka):Prop where
 len:l.length<=128
 c:∀f∈l,aM f=0
 id:∀(i j:Nat) (hi:i<a00 l) (hj:j<a00 l),i<j->l[i].Id≠l[j].Id
theorem uH{l:List ka}(h:(PB l).2=0):ξ l:=by
 unfold PB at h;split at h
 .omega
 have hn:∀i,i<a00 l->FI l i=s5:=by
  refine db.1 ?_
  cases hf:ff (FI l) l.length with
  |none=>rfl
  |some v=>
   grind[Qa,aN8]
 have a:∀i (hi:i<a00 l),aM l[i]=0/\((l.take i).any λy=>s6 (y.Id=l[i].Id))=a39:=by
  grind[FI]
 refine⟨U,λf hf=>?_,λi j hi hj hij=>?_⟩
 .obtain⟨i,hi,rfl⟩:=H' hf
  simp_all
 .have:=(a j hj).2;rw[Qae]at this;have:=this l[i] (by rw[Zad];grind)
  simp_all
def Fv(m i d r:Int) (f:ka):Bool:=s6 (f.ar=m)&&(s6 (f.ap=i)&&(!s6 (r<f.ah)&&aB f.ab d))
def below(g f:ka):Prop:=g.ah<f.ah\/(g.ah=f.ah/\g.Id<=f.Id)
instance (g f:ka):Decidable (below g f):=by unfold below;infer_instance
theorem B6{l:List ka}(hl:l.length<=1048576) (m i d r:Int):∃p,rn l m i d r=M p/\Yu l m i d r=M p/\
 ((p=(⟨0,0,0⟩,a39)/\∀f∈l,Fv m i d r f=a39)\/∃f∈l,p=(f.Value,a38)/\Fv m i d r f=a38/\∀g∈l,Fv m i d r g=a38->below g f):=by
 have c:∀f:ka,(if f.ar=m then if f.ap=i then if¬r<f.ah then(fc f.ab d).bind λv=>M (!v)else M a38 else M a38 else M a38)=M (!Fv m i d r f):=by
  grind[Fv,Mf]
 have n:∀f:ka,(if f.ar=m then if f.ap=i then if¬r<f.ah then(yg f.ab d).bind λv=>M (!v)else M a38 else M a38 else M a38)=M (!Fv m i d r f):=by
  grind[Fv,Ft]
 have q:∀f g:ka,Tu f g=M (s6 (¬below f g)):=by
  intro f g;unfold Tu below;by_cases h:f.ah=g.ah
  .simp_all
  .rw[J h];congr 1;grind
 have o:∀f g:ka,(if¬g.ah<f.ah then if f.ah=g.ah then M (s6 (g.Id<f.Id))else M a39 else M a38)=M (s6 (¬below f g)):=by
  intro f g;unfold below;by_cases h:g.ah<f.ah
  .rw[p6];congr 1;grind
  .rw[J h];by_cases h2:f.ah=g.ah
   .simp_all
   .rw[p6 h2];grind[decide_eq_false_iff_not]
 have t:=WI (s1:=sn l m i d r) (s2:=iy l m i d r)
  (λx y=>x=y/\∃j:Nat,j<=a00 l/\x.2=(j:Int)/\((x.1 = -1/\∀f∈l.take j,Fv m i d r f=a39)\/∃(k:Nat) (hk:k<a00 l),x.1=(k:Int)/\Fv m i d r l[k]=a38/\∀g∈l.take j,Fv m i d r g=a38->below g l[k])) (λx=>(a00 l-x.2).toNat)
  (λx y=>x=y/\((x = -1/\∀f∈l,Fv m i d r f=a39)\/∃(k:Nat) (hk:k<a00 l),x=(k:Int)/\Fv m i d r l[k]=a38/\∀g∈l,Fv m i d r g=a38->below g l[k])) (λ_ _=>False) (by
   rintro⟨a,b⟩ y ⟨rfl,j,j1,z,u⟩;dsimp only at z u;subst z;unfold sn iy;dsimp only;by_cases hj:j<a00 l
   case neg=>
    grind
   rw[J,J,va hj];simp only[a!,c,n];have htk:l.take (j+1)=l.take j++[l[j]]:=o0
   cases B:Fv m i d r l[j]
   .simp only[qac,D1,a!];rw[pa U];refine .inl ⟨_,_,rfl,rfl,⟨rfl,j+1,U,rfl,?_⟩,U⟩
    grind
   .simp only[Φ,t!,u4];rcases u with⟨e,u⟩|⟨k,hk,e,w,h2⟩
    .subst e;rw[p6 p5];simp only[a!,D1];rw[pa U];refine .inl ⟨_,_,rfl,rfl,⟨rfl,j+1,U,rfl,?_⟩,U⟩
     grind
    .subst e;rw[J,J,va hk];simp only[a!,q,o];by_cases hb:below l[j] l[k]
     .rw[w2 (p:=¬below l[j] l[k]) (λh=>h hb)];simp only[t!,u4,a!];rw[pa U];refine .inl ⟨_,_,rfl,rfl,⟨rfl,j+1,U,rfl,.inr ⟨k,hk,rfl,w,λg A s=>?_⟩⟩,U⟩
      grind
     .rw[s7 hb];simp only[D1,a!];rw[pa U];refine .inl ⟨_,_,rfl,rfl,⟨rfl,j+1,U,rfl,.inr ⟨j,hj,rfl,B,λg A s=>?_⟩⟩,U⟩
      grind) l.length (-1,0) (-1,0) U ⟨rfl,0,L! _,rfl,.inl ⟨rfl,λf hf=>by simp at hf⟩⟩
 rcases t with⟨x,y,g1,g2,rfl,g3⟩|⟨_,_,_,_,h⟩
 .unfold rn Yu;rw[g1,g2];simp only[a!];rcases g3 with⟨e,g3⟩|⟨k,hk,e,w,h2⟩
  .simp_all
  .subst e;rw[p6,va hk]
   grind
 simp_all
theorem bv3{l:List ka}(hl:l.length<=1048576) (m i d r:Int):∃p,rn l m i d r=M p/\
 ((p=(⟨0,0,0⟩,a39)/\∀f∈l,Fv m i d r f=a39)\/∃f∈l,p=(f.Value,a38)/\Fv m i d r f=a38/\∀g∈l,Fv m i d r g=a38->below g f):=by
 have n:∀f:ka,(if f.ar=m then if f.ap=i then if¬r<f.ah then(fc f.ab d).bind λA=>M (!A)else M a38 else M a38 else M a38)=M (!Fv m i d r f):=by
  grind[Fv,Mf]
 have s:∀f g:ka,Tu f g=M (s6 (¬below f g)):=by
  intro f g;unfold Tu below;by_cases h:f.ah=g.ah
  .simp_all
  .rw[J h];congr 1;grind
 have t:=WI (s1:=sn l m i d r) (s2:=sn l m i d r)
  (λx y=>x=y/\∃j:Nat,j<=a00 l/\x.2=(j:Int)/\((x.1 = -1/\∀f∈l.take j,Fv m i d r f=a39)\/∃(k:Nat) (hk:k<a00 l),x.1=(k:Int)/\Fv m i d r l[k]=a38/\∀g∈l.take j,Fv m i d r g=a38->below g l[k])) (λx=>(a00 l-x.2).toNat)
  (λx y=>x=y/\((x = -1/\∀f∈l,Fv m i d r f=a39)\/∃(k:Nat) (hk:k<a00 l),x=(k:Int)/\Fv m i d r l[k]=a38/\∀g∈l,Fv m i d r g=a38->below g l[k])) (λ_ _=>False) (by
   rintro⟨a,b⟩ y ⟨rfl,j,j1,z,u⟩;dsimp only at z u;subst z;unfold sn;dsimp only;by_cases hj:j<a00 l
   case neg=>
    grind
   rw[J,va hj];simp only[a!,n];have q:l.take (j+1)=l.take j++[l[j]]:=o0
   cases w:Fv m i d r l[j]
   .simp only[qac,D1,a!];rw[pa U];refine .inl ⟨_,_,rfl,rfl,⟨rfl,j+1,U,rfl,?_⟩,U⟩
    grind
   .simp only[Φ,t!,u4];rcases u with⟨e,u⟩|⟨k,hk,e,v,h2⟩
    .subst e;rw[p6 p5];simp only[a!,D1];rw[pa U];refine .inl ⟨_,_,rfl,rfl,⟨rfl,j+1,U,rfl,?_⟩,U⟩;refine .inr ⟨j,hj,rfl,w,λg c o=>?_⟩;rw[q]at c;rcases Z?.1 c with c|c
     .simp_all
     .rw[Tab]at c;rw[c];exact .inr ⟨rfl,iae _⟩
    .subst e;rw[J,va hk];simp only[a!,s];by_cases hb:below l[j] l[k]
     .rw[w2 (p:=¬below l[j] l[k]) (λh=>h hb)];simp only[t!,u4,a!];rw[pa U];refine .inl ⟨_,_,rfl,rfl,⟨rfl,j+1,U,rfl,.inr ⟨k,hk,rfl,v,λg c o=>?_⟩⟩,U⟩
      grind
     .rw[s7 hb];simp only[D1,a!];rw[pa U];refine .inl ⟨_,_,rfl,rfl,⟨rfl,j+1,U,rfl,.inr ⟨j,hj,rfl,w,λg c o=>?_⟩⟩,U⟩;rw[q]at c;rcases Z?.1 c with c|c
      .have:=h2 g c o;unfold below at this hb⊢;omega
      .rw[Tab]at c;rw[c];exact .inr ⟨rfl,iae _⟩) l.length (-1,0) (-1,0) U ⟨rfl,0,L! _,rfl,.inl ⟨rfl,λf hf=>by simp at hf⟩⟩
 rcases t with⟨x,y,g1,g2,rfl,g3⟩|⟨_,_,_,_,h⟩
 .unfold rn;rw[g1];simp only[a!];rcases g3 with⟨e,g3⟩|⟨k,hk,e,v,h2⟩
  .simp_all
  .subst e;rw[p6,va hk]
   grind
 simp_all
theorem WH{l:List mu}(hl:l.length<=1048576) {step:List ej×Int->Option (Ex (List ej×Int) (List ej) Unit)}
 (c:∀a b,step (a,b)=if b<(a00 l:Int)then(c! l b).bind λd=>(app 16 a ([d.ao])).bind λe=>M (i! (e,(aa .i64 (b+1))))else M (i? a)):ca step (([]:List ej),0)=M (.inl (l.map (·.ao))):=by
 refine Nc (λi=>((l.take i).map (·.ao),(i:Int))) l.length _ (λi hi=>?_) ?_ rfl
 .have h2:(l.take i).length<=a00 l:=o4
  rw[c,J,va hi,a!,Od o4,a!,pa U,N!,n! hi]
  grind
 simp_all
theorem LQ{l:cb}{i:Nat}(hi:i<a00 l.e):Ve l (i:Int)=M (BG l l.e[i]):=by
 unfold Ve BG;rw[va hi,a!];generalize l.e[i]=x;rw[OQ];by_cases h:0<=x.ac/\x.ac<(a00 l.e:Int)
 .simp_all[if_neg,nh]
 grind
def UD(s:ek) (d:Int):List Bool:=(p! s.d.length).map λ(k:Nat)=>wB s d (k:Int)
def JC(ms:ek) (l:List Int):List Bool:=(p! ms.d.length).map λ(k:Nat)=>l.any λm=>wB ms m (k:Int)
theorem iF(c:J? s) (hd:0<=d/\d<(a00 s.d:Int)) {l:List Int}(hl:l.length<=1048576) (hm:∀x,x∈l↔Way s d x) 
 (c:∀a b,step (a,b)=if b<(a00 l:Int)then(c! l b).bind λx=>(c! a x).bind λ_=>(put a x a38).bind λq=>M (.go (q,aa .i64 (b+1)))else M (.brk a)) :
 (c! ((p! s.d.length).map f) d).isSome=a38/\∃q,put ((p! s.d.length).map f) d a38=M q/\ca step (q,0)=M (.inl ((p! s.d.length).map λ(k:Nat)=>f k || wB s d (k:Int))):=by
 refine⟨by grind[Yx],_,VB hd.1 hd.2,?_⟩;rw[SR hl (λx hx=>pG ((hm x).1 hx)) _ c];congr 2;apply oac;intro k _;rw[Bool.or_assoc];congr 1;unfold wB;congr 1;rw[Sac,Ν,Ν,hm,qB]
theorem xy{l:List α}{i:Int}(h:(c! l i).isSome=a38):∃x,c! l i=M x:=Option.isSome_iff_exists.1 h
theorem ba1(c:J? s) (hd:0<=d/\d<(a00 s.d:Int)) :Ch s.q s.ac s.w s.d s.f ((p! s.d.length).map f) d=M ((p! s.d.length).map λ(k:Nat)=>f k || wB s d (k:Int)):=by
 obtain⟨l,h1,h2,e⟩:=bm c d;obtain⟨m1,q,m2,m3⟩:=iF c hd (f:=f) h2 e (step:=Cp l) (λa b=>by grind[Cp]);obtain⟨x,hx⟩:=xy m1
 grind[Ch,bd]
theorem cs7(c:J? s) (hd:0<=d/\d<(a00 s.d:Int)) :Bg ((p! s.d.length).map f) s d=M ((p! s.d.length).map λ(k:Nat)=>f k || wB s d (k:Int)):=by
 have hl:=(DB s d s.d.length).len;have hdf:=c.defs;obtain⟨m1,q,m2,m3⟩:=iF c hd (f:=f) (l:=mG s d s.d.length) U (λx=>qB) (step:=Qj (mG s d s.d.length)) (λa b=>by grind[Qj]);obtain⟨x,hx⟩:=xy m1
 grind[Bg,Pp]
theorem BH{l:List Int}(hl:l.length<=1048576) (hm:∀m∈l,0<=m/\m<(a00 ms.d:Int)) {g:List Bool->Int->Option (List Bool)}
 (c:∀f:Nat->Bool,∀m∈l,g ((p! ms.d.length).map f) m=M ((p! ms.d.length).map λ(k:Nat)=>f k || wB ms m (k:Int)))
 (d:∀a b,step (a,b)=if b<(a00 l:Int)then(c! l b).bind λx=>(g a x).bind λq=>M (.go (q,aa .i64 (b+1)))else M (.brk a)):ca step (k? ms.d.length a39,0)=M (.inl (JC ms l)):=by
 refine Nc (λi=>(JC ms (l.take i),(i:Int))) l.length _ (λi hi=>?_) ?_ (by simp[JC,YC])
 .rw[d,J,va hi,a!];unfold JC;rw[c _ _ (y! hi),a!,pa U,N!,n! hi]
  grind
 simp_all
theorem nQ{l:cb}(hl:m? l) (C:D! l) (E:∀x∈l.e,a00 x.f<=64) {i:Nat}(hi:i<a00 l.e) (hd:0<=d/\d<(l.e[i].d.length:Int)) {c:se}(hc:c.s.length<=1048576)
 (N:tc l (i:Int) c a38 d=M DU):∃p,Hc l (i:Int) c d=M p/\Nh l (i:Int) c d=M p/\(p.2.2.Code=0->K6 p.1):=by
 have hx:=IP hl (y! hi);have k:=OT hl l.e[i];have o:=EH hl C hi (d:=d);have F:=rW hl C hi (d:=d);have j9:=E _ (y! hi);have s:=LQ hi;unfold Hc Nh;rw[N,a!,p6 (by simp[DU]),va hi,a!,s];have I:Zi l (i:Int)=M (l.e[i].q,l.e[i].ac,l.e[i].w,l.e[i].d,l.e[i].f,(BG l l.e[i]).q,(BG l l.e[i]).ac,(BG l l.e[i]).w,(BG l l.e[i]).d,(BG l l.e[i]).f,k? l.e[i].d.length a39,k? (BG l l.e[i]).d.length a39):=by
  have hb:=(C.few hi).1;have D:=hx.ok.defs;have h:=k.ok.defs;unfold Zi;rw[va hi,a!];generalize l.e[i]=x at hb D h⊢;rw[RA U U,a!];by_cases H:0<=x.ac
  .have u:x.ac<(a00 l.e:Int):=by
    grind[TB]
   unfold BG at h⊢;rw[dif_pos ⟨H,u⟩]at h⊢;rw[J H,nh H u,a!,RA U U];rfl
  grind[BG]
 rw[I,a!];dsimp only;generalize BG l l.e[i]=ms at k o s⊢;generalize hxx:l.e[i]=x at *;have D:=hx.ok.defs;have h:=k.ok.defs;rw[RA (n:=a00 x.d) U U];simp only[a!];rw[RA (n:=a00 ms.d) U U];simp only[a!];have A:Dh d x.q x.ac x.w x.d x.f ms.q ms.ac ms.w ms.d ms.f (k? x.d.length a39) (k? ms.d.length a39)=M (UD x d,JC ms (QA x d)):=by
  obtain⟨lt,j8,h2,V⟩:=bm hx.ok d;obtain⟨m1,q,m2,m3⟩:=iF hx.ok hd (f:=λ_=>a39) h2 V (step:=Fh lt) (λa b=>by grind[Fh]);obtain⟨y,O⟩:=xy m1;unfold Dh;rw[YC,O,a!,m2,a!,show bd ⟨x.q,x.ac,x.w,x.d,x.f⟩ d=M lt from j8,a!,m3,a!];dsimp only;rw[show lj ⟨x.q,x.ac,x.w,x.d,x.f⟩ d=M (QA x d)from bB hx.ok hd,a!];rw[BH (ms:=ms) (l:=QA x d) F o (g:=λa m=>Ch ms.q ms.ac ms.w ms.d ms.f a m) (λf m hm=>ba1 k.ok (o m hm)) (step:=Eh ms.q ms.ac ms.w ms.d ms.f (QA x d)) (λa b=>by grind[Eh])]
  simp_all[UD]
 have B:Hl d x (k? x.d.length a39)=M (UD x d):=by
  have u:=(DB x d x.d.length).len;obtain⟨m1,q,m2,m3⟩:=iF hx.ok hd (f:=λ_=>a39) (l:=mG x d x.d.length) U (λy=>qB) (step:=Il (mG x d x.d.length)) (λa b=>by grind[Il]);obtain⟨y,O⟩:=xy m1;unfold Hl;rw[YC,O,a!,m2,a!,Pp hx.ok,a!,m3]
  simp_all[UD]
 have t:Pj l (i:Int) d x (k? ms.d.length a39)=M (JC ms (QA x d)):=by
  unfold Pj;rw[JH hx.ok j9 hx.ok.g hd,a!];rw[BH (ms:=ms) (l:=QA x d) F o (g:=λa m=>Bg a ms m) (λf m hm=>cs7 k.ok (o m hm)) (step:=Rj l (i:Int) (QA x d)) (λa b=>by grind[Rj])];rfl
 rw[A,B,t];simp only[a!];have L:(UD x d).length=a00 x.d:=by simp[UD]
 have j6:(JC ms (QA x d)).length=a00 ms.d:=by simp[JC]
 generalize UD x d=w at L⊢;generalize JC ms (QA x d)=wm at j6⊢;unfold Qg Jl;dsimp only;rw[WH (l:=ms.d) h (step:=Ih ⟨⟨x.q,x.ac,x.w,x.d,x.f⟩,⟨ms.q,ms.ac,ms.w,ms.d,ms.f⟩,w,wm⟩) (λa b=>by grind[Ih]),a!,s,a!];dsimp only;have K:=WI (s1:=Hh l c ⟨⟨x.q,x.ac,x.w,x.d,x.f⟩,⟨ms.q,ms.ac,ms.w,ms.d,ms.f⟩,w,wm⟩) (s2:=ei l c wm ms)
  (λa b=>∃j:Nat,j<=a00 c.s/\a.2.2=(j:Int)/\b.2.2=(j:Int)/\a.1=b.1/\a.1.length=j/\a.2.1.length=j/\b.2.1.length=j) (λa=>(a00 c.s-a.2.2).toNat)
  (λa b=>a.1=b.1/\a.1.length=a00 c.s) (λa b=>∃e:ri,e.Code≠0/\a=(⟨[],[],[]⟩,⟨0,[],[],[],[],[]⟩,e)/\b=([],[],e)) (by
   rintro⟨a1,a2,a3⟩ ⟨S,T,b3⟩ ⟨j,j1,P,Q,R,W,X,Y⟩;dsimp only at P Q R W X Y;subst P;subst Q;subst R;unfold Hh ei;dsimp only;by_cases hj:j<a00 c.s
   case neg=>
    rw[p6,p6]
    grind
   rw[J,J];unfold Lu;rw[va hj];simp only[a!];have he:w? (ic.mk c.z c.s[j] [] [] [] l.Tables):=CI C rfl o0;rcases JP k he (w:=wm) U (j:Int)with⟨v,r,s1,s2,G⟩|⟨e,z,s0,s1,s2⟩
   .rw[show Da ⟨ms.q,ms.ac,ms.w,ms.d,ms.f⟩ _ _ _=_ from s1,s2];simp only[a!,DU,not_true,u4];rw[Od o4,a!,Od o4,a!,Od o4,a!,pa U];exact .inl ⟨_,_,rfl,rfl,⟨j+1,U,rfl,rfl,rfl,l5,l5,l5⟩,o4⟩
   simp_all) c.s.length (([]:List (List bz)),([]:List wt),0) (([]:List (List bz)),([]:List (List Int)),0) o0 ⟨0,L! _,rfl,rfl,rfl,rfl,rfl,rfl⟩
 rcases K with⟨⟨a1,a2⟩,⟨S,T⟩,g1,g2,g3,g4⟩|⟨a,b,g1,g2,e,e0,rfl,rfl⟩
 .dsimp only at g3 g4;subst g3;rw[g1,g2];simp only[a!,not_true,u4];unfold jG;rw[s,a!,WH (l:=ms.d) h (step:=Mz ms) (λa b=>by grind[Mz])];simp only[a!];have he:w? (ic.mk c.z c.w [] a1 (ms.d.map (·.ao)) l.Tables):=CI C rfl l5;rcases JP hx he (w:=w) U (-1)with⟨v,r,s1,s2,G⟩|⟨e,z,s0,s1,s2⟩
  .rw[show Da ⟨x.q,x.ac,x.w,x.d,x.f⟩ _ _ _=_ from s1,s2];simp only[a!,DU,not_true,u4];rw[nh hd.1 (by have:=G.vl;omega),nh hd.1 (by have:=G.rl;omega)];exact⟨_,rfl,rfl,λ_=>G.vp _ (y! _)⟩
  simp_all
 simp_all
noncomputable def N4(l:cb) (i:Nat) (hi:i<a00 l.e) (d:Int):b0:=
 ⟨⟨l.e[i].q,l.e[i].ac,l.e[i].w,l.e[i].d,l.e[i].f⟩,⟨(BG l l.e[i]).q,(BG l l.e[i]).ac,(BG l l.e[i]).w,(BG l l.e[i]).d,(BG l l.e[i]).f⟩,UD l.e[i] d,JC (BG l l.e[i]) (QA l.e[i] d)⟩
theorem lN{l:cb}(hl:m? l) (t:D! l) (o:∀x∈l.e,a00 x.f<=64) {i:Nat}(hi:i<a00 l.e) (hd:0<=d/\d<(l.e[i].d.length:Int)) {c:se}
 (v:tc l (i:Int) c a38 d=M DU):Hc l (i:Int) c d=(Qg l (i:Int) c (N4 l i hi d)).bind λj=>
 if¬j.2.2.Code=0 then
  M ((bz.mk 0 0 0),0,j.2.2)
 else
 (c! j.1.bd d).bind λw=>
 (c! j.1.f d).bind λz=>
 M (w,z,(ri.mk 0 0 0 0)):=by
 have hx:=IP hl (y! hi);have h:=OT hl l.e[i];have k:=EH hl t hi (d:=d);have u:=rW hl t hi (d:=d);have hfx:=o _ (y! hi);unfold Hc N4;rw[v,a!,p6 (by simp[DU])];have s:Zi l (i:Int)=M (l.e[i].q,l.e[i].ac,l.e[i].w,l.e[i].d,l.e[i].f,(BG l l.e[i]).q,(BG l l.e[i]).ac,(BG l l.e[i]).w,(BG l l.e[i]).d,(BG l l.e[i]).f,k? l.e[i].d.length a39,k? (BG l l.e[i]).d.length a39):=by
  have hb:=(t.few hi).1;have n:=hx.ok.defs;have e:=h.ok.defs;unfold Zi;rw[va hi,a!];generalize l.e[i]=x at hb n e⊢;rw[RA U U,a!];by_cases r:0<=x.ac
  .have p:x.ac<(a00 l.e:Int):=by
    grind[TB]
   unfold BG at e⊢;rw[dif_pos ⟨r,p⟩]at e⊢;rw[J r,nh r p,a!,RA U U];rfl
  grind[BG]
 rw[s,a!];dsimp only;generalize BG l l.e[i]=ms at h k⊢;generalize hxx:l.e[i]=x at *;have n:=hx.ok.defs;have e:=h.ok.defs;have hI11:Dh d x.q x.ac x.w x.d x.f ms.q ms.ac ms.w ms.d ms.f (k? x.d.length a39) (k? ms.d.length a39)=M (UD x d,JC ms (QA x d)):=by
  obtain⟨lt,A,h2,B⟩:=bm hx.ok d;obtain⟨m1,q,m2,m3⟩:=iF hx.ok hd (f:=λ_=>a39) h2 B (step:=Fh lt) (λa b=>by grind[Fh]);obtain⟨y,C⟩:=xy m1;unfold Dh;rw[YC,C,a!,m2,a!,show bd ⟨x.q,x.ac,x.w,x.d,x.f⟩ d=M lt from A,a!,m3,a!];dsimp only;rw[show lj ⟨x.q,x.ac,x.w,x.d,x.f⟩ d=M (QA x d)from bB hx.ok hd,a!];rw[BH (ms:=ms) (l:=QA x d) u k (g:=λa m=>Ch ms.q ms.ac ms.w ms.d ms.f a m) (λf m hm=>ba1 h.ok (k m hm)) (step:=Eh ms.q ms.ac ms.w ms.d ms.f (QA x d)) (λa b=>by grind[Eh])]
  simp_all[UD]
 simp_all
theorem kZ{l:cb}(k:D! l) {x:ek}(hx:ScE x) (f:ScE ms) {c:se}(hc:c.s.length<=1048576) {wm:List Bool}(hmk:w.length=a00 x.d) (hmm:wm.length=a00 ms.d) (i:Int) :
 ∃p,Qg l i c ⟨⟨x.q,x.ac,x.w,x.d,x.f⟩,⟨ms.q,ms.ac,ms.w,ms.d,ms.f⟩,w,wm⟩=M p/\(p.2.2.Code=0->O? x.d.length p.1.bd p.1.f/\w? p.2.1):=by
 have g:=f.ok.defs;unfold Qg;dsimp only;rw[WH (l:=ms.d) g (step:=Ih ⟨⟨x.q,x.ac,x.w,x.d,x.f⟩,⟨ms.q,ms.ac,ms.w,ms.d,ms.f⟩,w,wm⟩) (λa b=>by grind[Ih]),a!];dsimp only;have h:=NR (s:=Hh l c ⟨⟨x.q,x.ac,x.w,x.d,x.f⟩,⟨ms.q,ms.ac,ms.w,ms.d,ms.f⟩,w,wm⟩)
  (λa=>∃j:Nat,j<=a00 c.s/\a.2.2=(j:Int)/\a.1.length=j/\a.2.1.length=j) (λa=>(a00 c.s-a.2.2).toNat)
  (λa=>a.1.length=a00 c.s) (λa=>∃e:ri,e.Code≠0/\a=(⟨[],[],[]⟩,⟨0,[],[],[],[],[]⟩,e)) (by
   rintro⟨a1,a2,a3⟩ ⟨j,j1,m,o,q⟩;dsimp only at m o q;subst m;unfold Hh;dsimp only;by_cases hj:j<a00 c.s
   case neg=>
    rw[p6]
    grind
   rw[J];rw[va hj];simp only[a!];have he:w? (ic.mk c.z c.s[j] [] [] [] l.Tables):=CI k rfl o0;rcases R5 f he (w:=wm) U (j:Int)with⟨v,r,s1,n⟩|⟨e,d,s0,s1⟩
   .rw[show Da ⟨ms.q,ms.ac,ms.w,ms.d,ms.f⟩ _ _ _=_ from s1];simp only[a!,DU,not_true,u4];rw[Od o4,a!,Od o4,a!,pa U];exact .inl ⟨_,rfl,⟨j+1,U,rfl,l5,l5⟩,o4⟩
   simp_all) (x:=(([]:List (List bz)),([]:List wt),0)) ⟨0,L! _,rfl,rfl,rfl⟩
 rcases h with⟨⟨a1,a2⟩,g1,g4⟩|⟨a,g1,e,e0,rfl⟩
 .dsimp only at g4;rw[g1];simp only[a!];have he:w? (ic.mk c.z c.w [] a1 (ms.d.map (·.ao)) l.Tables):=CI k rfl l5;rcases R5 hx he (w:=w) U (-1)with⟨v,r,s1,n⟩|⟨e,d,s0,s1⟩
  .rw[show Da ⟨x.q,x.ac,x.w,x.d,x.f⟩ _ _ _=_ from s1];simp only[a!,DU,not_true,u4];exact⟨_,rfl,λ_=>⟨n,he.1,he.2⟩⟩
  simp_all
 simp_all
theorem F6{l:cb}(hl:m? l) (g:D! l) (a:∀x∈l.e,a00 x.f<=64) {i:Nat}(hi:i<a00 l.e) (hd:0<=d/\d<(l.e[i].d.length:Int)) {c:se}(hc:c.s.length<=1048576)
 (b:tc l (i:Int) c a38 d=M DU):∃p,Hc l (i:Int) c d=M p/\(p.2.2.Code=0->K6 p.1):=by
 rw[lN hl g a hi hd b];obtain⟨p,h,j⟩:=kZ g (IP hl (y! hi)) (OT hl l.e[i]) hc (w:=UD l.e[i] d) (wm:=JC (BG l l.e[i]) (QA l.e[i] d)) (by simp[UD]) (by simp[JC]) (i:Int);unfold N4;rw[h,a!];by_cases f:p.2.2.Code=0
 case neg=>simp_all
 rw[p6 (v!.2 f)];have e:=(j f).1;rw[nh hd.1 (by have:=e.vl;omega),a!,nh hd.1 (by have:=e.rl;omega)];exact⟨_,rfl,λ_=>e.vp _ (y! _)⟩
def Vq(l:cb) (x:ek):List mu×Bool:=if h:0<=x.ac/\x.ac<(a00 l.e:Int)then((l.e[x.ac.toNat]' U).w,a38)else([],a39)
theorem oF{l:cb}{i:Nat}(hi:i<a00 l.e):Be l (i:Int)=M (Vq l l.e[i]):=by
 unfold Be Vq;rw[va hi];simp only[a!,OQ];generalize l.e[i]=x;by_cases h:0<=x.ac/\x.ac<(a00 l.e:Int)
 .have hc:s6 (x.ac<0\/(a00 l.e:Int)<=x.ac)=a39:=l5
  simp_all[nh]
 grind
theorem lA{l:cb}{i:Nat}(hi:i<a00 l.e):Ff l (i:Int)=M (Vq l l.e[i]):=by
 unfold Ff Vq;rw[va hi];simp only[a!,OQ];generalize l.e[i]=x;by_cases h:0<=x.ac/\x.ac<(a00 l.e:Int)
 .have hc:s6 (x.ac<0\/(a00 l.e:Int)<=x.ac)=a39:=l5
  simp_all[nh]
 grind
theorem GO{l:cb}{i:Nat}(hi:i<a00 l.e):dh l (i:Int)=M ((Vq l l.e[i]).1,if(Vq l l.e[i]).2=a38 then 8 else 0):=by
 unfold dh Vq;rw[va hi];simp only[a!,OQ];generalize l.e[i]=x;by_cases h:0<=x.ac/\x.ac<(a00 l.e:Int)
 .have hc:s6 (x.ac<0\/(a00 l.e:Int)<=x.ac)=a39:=l5
  simp_all[nh]
 grind
def ap7(l:cb) (x:ek) (f:ka):Option ej:=
 if f.ap = -1 then M ⟨1,0⟩else if f.ap<0 then s5 else((if f.ar = -1 then x.w else(Vq l x).1)[f.ap.toNat]?).map (·.ao)
noncomputable def z8(l:cb) (x:ek) (members:Int) (f:ka):Int:=
 if members<=f.ar then 6 else
 match ap7 l x f with
 |none=>6
 |some t=>if¬(f.Value.a=t.a/\f.Value.g=t.g)then 8 else if YV f.Value.N t l.r=a39 then 3 else 0
noncomputable def hhF(l:cb) (x:ek) (h:ml) (i:Nat):Option (Int×Int):=
 match h.aa[i]? with
 |some f=>if¬z8 l x h.s f=0 then M ((i:Int),z8 l x h.s f)else s5
 |none=>s5
theorem inO{n lo hi:Int}:(b? (α:=Bool) (if¬n<lo then M (s6 (hi<n))else M a38) k)=k (!(s6 (lo<=n)&&s6 (n<=hi))):=by
 grind[decide]
theorem aU4{c:Int}:(b? (α:=Bool) (if a=b then M (c !=d)else M a38) k)=k (s6 (¬(a=b/\c=d))):=by
 by_cases e:a=b
 .rw[J e,a!];congr 1
  grind
 simp_all
theorem cl9{l:cb}{h:ml}{i:Nat}(hi:i<a00 l.e) (e:h.ai=(i:Int)) (hl:h.aa.length<=128):ca (mh l h (Vq l l.e[i])) 0=M (Rb () (ff (hhF l l.e[i] h) h.aa.length)):=
 Gb (λj=>(j:Int)) _ h.aa.length () (λj hj _=>by
  unfold mh hhF;rw[J,va hj,n! hj,e,va hi];simp only[a!];generalize h.aa[j]=f;unfold z8;by_cases c:h.s<=f.ar
  .rw[J c,J c,J p5];rfl
  rw[p6 c,p6 c];have d:(if f.ar=(-1)then M l.e[i].w else M (Vq l l.e[i]).1)=M (if f.ar = -1 then l.e[i].w else(Vq l l.e[i]).1):=o4
  rw[d,a!];unfold ap7;generalize (if f.ar = -1 then l.e[i].w else(Vq l l.e[i]).1)=a;have fin:∀t:ej,(b? (α:=Bool) (if f.Value.a=t.a then M (f.Value.g !=t.g)else M a38) λg=>if g=a38 then M (l? (((j:Nat):Int),(8:Int)):Ex Int Unit (Int×Int))else(Xc (ej.mk t.a t.g) l.r).bind λb=>b? (α:=Bool) (if¬f.Value.N<b.1 then M (s6 (b.2<f.Value.N))else M a38) λk=>if k=a38 then M (l? (((j:Nat):Int),3))else M (i! (aa .i64 ((j:Int)+1)))) =
   M (mE (((j+1:Nat):Int)) (if¬(if¬(f.Value.a=t.a/\f.Value.g=t.g)then(8:Int)else if YV f.Value.N t l.r=a39 then 3 else 0)=0 then M ((j:Int),(if¬(f.Value.a=t.a/\f.Value.g=t.g)then(8:Int)else if YV f.Value.N t l.r=a39 then 3 else 0))else s5)):=by
   intro t;rw[aU4,pa U];by_cases h2:f.Value.a=t.a/\f.Value.g=t.g
   .rw[w2 (p:=¬(f.Value.a=t.a/\f.Value.g=t.g)) (λh=>h h2),p6 o0,Cl,a!,inO];simp only[h2,not_true,and_self,u4];unfold YV;by_cases m:(s6 ((xU t l.r).1<=f.Value.N)&&s6 (f.Value.N<=(xU t l.r).2))=a38
    all_goals simp_all[mE]
   .rw[s7 h2,J rfl,J h2,J p5];rfl
  by_cases h2:f.ap = -1
  .rw[p6 (v!.2 h2),J h2,a!];dsimp only;exact fin ⟨1,0⟩
  .rw[J h2,p6 h2,OQ];by_cases m:f.ap<0\/(a00 a:Int)<=f.ap
   .rw[s7 m,J rfl,a!];dsimp only;have:(if f.ap<0 then s5 else(a[f.ap.toNat]?).map (·.ao))=s5:=by
     grind
    rw[this];dsimp only;rw[J p5];rfl
   simp_all[if_neg,nh]) (λ_=>by grind[mh])
theorem cl8{l:cb}{h:ml}{i:Nat}(hi:i<a00 l.e) (d:h.ai=(i:Int)) (hl:h.aa.length<=128) (hm:∀f∈h.aa,-1<=f.ar):ca (Rm l h) 0=M (Rb () (ff (hhF l l.e[i] h) h.aa.length)):=
 Gb (λj=>(j:Int)) _ h.aa.length () (λj hj _=>by
  have c:=hm _ (y! hj);have m:Fq l h h.aa[j]=M (z8 l l.e[i] h.s h.aa[j]):=by
   unfold Fq z8;rw[d,va hi,lA hi];generalize h.aa[j]=f at c;simp only[a!];by_cases k:h.s<=f.ar
   .simp_all
   rw[p6 k,p6 k];have b:(if 0<=f.ar then M (Vq l l.e[i]).1 else M l.e[i].w)=M (if f.ar = -1 then l.e[i].w else(Vq l l.e[i]).1):=by
    grind
   rw[b,a!];unfold ap7;generalize (if f.ar = -1 then l.e[i].w else(Vq l l.e[i]).1)=e;have fin:∀t:ej,((rA f.Value).bind λa=>if¬(a.a=t.a/\a.g=t.g)then M 8 else(ew f.Value.N (ej.mk t.a t.g) l.r).bind λg=>if g=a39 then M 3 else M 0)=M (if¬(f.Value.a=t.a/\f.Value.g=t.g)then(8:Int)else if YV f.Value.N t l.r=a39 then 3 else 0):=by
    intro t;unfold rA;rw[a!];dsimp only;by_cases h2:f.Value.a=t.a/\f.Value.g=t.g
    .rw[p6 (v!.2 h2),p6 (v!.2 h2),dP,a!];cases YV f.Value.N t l.r<;>rfl
    simp_all
   by_cases h2:f.ap = -1
   .rw[p6 (v!.2 h2),J h2,a!];dsimp only;exact fin ⟨1,0⟩
   .rw[J h2,p6 h2,OQ];by_cases h3:f.ap<0\/(a00 e:Int)<=f.ap
    .grind
    simp_all[if_neg,nh]
  unfold Rm hhF;rw[J,va hj,a!,m,a!,pa U,n! hj];dsimp only;split<;>rfl) (λ_=>by grind[Rm])
noncomputable def hhV(l:cb) (h:ml):Int×Int:=
 match l.e[h.ai.toNat]? with
 |none=>(-1,6)
 |some x=>if h.ai<0 then(-1,6)else if h.Id<0\/h.s<0\/8<h.s\/(h.s≠0/\(Vq l x).2=a39)then(-1,3)else
  if¬(PB h.aa).2=0 then PB h.aa else(ff (hhF l x h) h.aa.length).getD (0,0)
theorem aV5{a b c d:Prop} [Decidable a] [Decidable b] [Decidable c] [Decidable d] {m:Bool}:(b? (α:=Bool) (if¬a then if¬b then if¬c then if¬d then M (!m)else M a39 else M a38 else M a38 else M a38) k)=k (s6 (a\/b\/c\/(¬d/\m=a39))):=by
 by_cases a<;>by_cases b<;>by_cases c<;>by_cases d<;>cases m<;>simp[*]
theorem wi(l:cb) (h:ml) (hl:l.e.length<=1048576):Zd l h=M (hhV l h):=by
 unfold Zd hhV;rw[OQ];by_cases hs:h.ai<0\/(a00 l.e:Int)<=h.ai
 .grind
 rw[p6 l5];obtain⟨i,hi⟩:=V' (show 0<=h.ai by omega);have a:i<a00 l.e:=U
 rw[hi,oF a,a!,cac,n! a];dsimp only;rw[aV5,p6 (show¬((i:Int)<0) by omega)];by_cases hb:h.Id<0\/h.s<0\/8<h.s\/(¬h.s=0/\(Vq l l.e[i]).2=a39)
 .simp_all
 rw[p6 l5,p6 hb,kK,a!];by_cases hf:(PB h.aa).2=0
 case neg=>simp_all
 rw[p6 (v!.2 hf),p6 (v!.2 hf),cl9 a hi (uH hf).len,a!];cases ff (hhF l l.e[i] h) h.aa.length<;>rfl
theorem aQ4{f:ka}(h:aM f=0):¬sQ f/\¬NS f:=by
 grind[aM]
theorem QK(l:cb) (h:ml) (hl:l.e.length<=1048576) (e:h.aa.length<=1048576):Ms l h=M (hhV l h):=by
 unfold Ms hhV;rw[OQ];by_cases hs:h.ai<0\/(a00 l.e:Int)<=h.ai
 .grind
 rw[p6 l5];obtain⟨i,hi⟩:=V' (show 0<=h.ai by omega);have a:i<a00 l.e:=U
 rw[hi,lA a,a!,cac,n! a];dsimp only;rw[aV5,p6 (show¬((i:Int)<0) by omega)];by_cases hb:h.Id<0\/h.s<0\/8<h.s\/(¬h.s=0/\(Vq l l.e[i]).2=a39)
 .simp_all
 rw[p6 l5,p6 hb,PK e,a!];by_cases hf:(PB h.aa).2=0
 case neg=>simp_all
 have b:=uH hf;rw[p6 (v!.2 hf),p6 (v!.2 hf),cl8 a hi b.len (λf d=>by
  have:=(aQ4 (b.c f d)).1;unfold sQ at this;omega),a!]
 cases ff (hhF l l.e[i] h) h.aa.length<;>rfl
structure bu4 (l:cb) (h:ml) (i:Nat):Prop where
 hi:i<a00 l.e
 sc:h.ai=(i:Int)
 m:0<=h.s/\h.s<=8
 ms:h.s≠0->(Vq l l.e[i]).2=a38
 f:ξ h.aa
 t:∀f∈h.aa,f.ar<h.s/\∃t,ap7 l l.e[i] f=M t/\f.Value.a=t.a/\f.Value.g=t.g/\YV f.Value.N t l.r=a38
theorem OM{l:cb}{h:ml}(hv:(hhV l h).2=0):∃i,bu4 l h i:=by
 unfold hhV at hv
 cases hx:l.e[h.ai.toNat]? with
 |none=>simp_all
 |some x=>
  rw[hx]at hv;dsimp only at hv;split at hv
  .omega
  split at hv
  .omega
  split at hv
  .omega
  rename_i h0 h1 h2;obtain⟨b,rfl⟩:=List.getElem?_eq_some_iff.1 hx;refine⟨h.ai.toNat,b,U,U,λhm=>?_,uH (Xab.1 h2),λf hf=>?_⟩
  .simp_all
  .have hn:ff (hhF l l.e[h.ai.toNat] h) h.aa.length=s5:=by
    cases hff:ff (hhF l l.e[h.ai.toNat] h) h.aa.length with
    |none=>rfl
    |some v=>
     grind[hhF,Qa]
   obtain⟨k,hk,rfl⟩:=H' hf;have:=db.1 hn k hk;unfold hhF at this;rw[n! hk]at this;dsimp only at this;split at this
   .cases this
   .rename_i a;have a:=Xab.1 a;unfold z8 at a
    grind
noncomputable def VJ(l:List ka) (m i d r:Int):bz×Bool:=(rn l m i d r).getD (⟨0,0,0⟩,a39)
theorem WU{l:List ka}(hl:l.length<=1048576) (m i d r:Int):rn l m i d r=M (VJ l m i d r)/\
 ((VJ l m i d r=(⟨0,0,0⟩,a39)/\∀f∈l,Fv m i d r f=a39)\/∃f∈l,VJ l m i d r=(f.Value,a38)/\Fv m i d r f=a38/\∀g∈l,Fv m i d r g=a38->below g f):=by
 obtain⟨p,h1,h3⟩:=bv3 hl m i d r
 grind[VJ]
theorem aZ6{l:List ka}(hl:l.length<=1048576) (m i d r:Int):Yu l m i d r=M (VJ l m i d r):=by
 obtain⟨p,h1,h2,-⟩:=B6 hl m i d r
 grind[WU]
noncomputable def Xt(l:List ka) (m:Int) (n:Nat) (d r:Int):List bz×Bool:=
 if((p! n).all λi=>(VJ l m (i:Int) d r).2)=a38 then((p! n).map λ(i:Nat)=>(VJ l m (i:Int) d r).1,a38)else([],a39)
theorem n6{l:List ka}:ff (λi=>if(VJ l m (i:Int) d r).2=a39 then M (([],a39):List bz×Bool)else s5) n=if((p! n).all λi=>(VJ l m (i:Int) d r).2)=a38 then s5 else M ([],a39):=by
 by_cases h:((p! n).all λi=>(VJ l m (i:Int) d r).2)=a38
 .simp_all[db]
 .rw[p6 h]
  cases hf:ff (λi=>if(VJ l m (i:Int) d r).2=a39 then M (([],a39):List bz×Bool)else s5) n with
  |none=>
   grind[db]
  |some v=>
   grind[Qa]
theorem aQ{l:List ka}(hl:l.length<=1048576) (hn:n<=1048576) (m d r:Int):Ef l m (n:Int) d r=M (Xt l m n d r):=by
 unfold Ef;rw[RA U U,a!];have a:ca (kf l m d r (k? n ⟨0,0,0⟩)) (k? n ⟨0,0,0⟩,0)=M (Rb ((p! n).map λ(i:Nat)=>(VJ l m (i:Int) d r).1) (ff (λi=>if(VJ l m (i:Int) d r).2=a39 then M (([],a39):List bz×Bool)else s5) n)):=by
  refine Gb (step:=kf l m d r (k? n ⟨0,0,0⟩)) (λt=>(((p! n).map λ(i:Nat)=>(VJ l m (i:Int) d r).1).take t++k? (n-t) ⟨0,0,0⟩,(t:Int))) _ n _ (λt ht _=>?_) (λ_=>?_) o0
  .unfold kf;dsimp only;rw[J l5,(WU hl m (t:Int) d r).1,a!];by_cases h:(VJ l m (t:Int) d r).2=a39
   .rw[J h,J h];rfl
   .rw[p6 h,p6 h,va o4,a!,oE o4,a!,pa U,nA ht];unfold mE;dsimp only;congr 3;rw[Qac _ _ o4,show t-(((p! n).map λ(i:Nat)=>(VJ l m (i:Int) d r).1).take t).length=0 by grind,show n-t=(n-(t+1))+1 by omega,Υ,fac];simp
  simp_all[kf,lac]
 rw[a,n6];unfold Xt;split<;>rfl
theorem aW{h:ml}(hl:h.aa.length<=1048576) (hn:fs.length<=1048576) (m d r:Int):Qp h m fs d r=M (Xt h.aa m fs.length d r):=by
 unfold Qp;have a:ca (Tl h m fs d r) (([]:List bz),0)=M (Rb ((p! fs.length).map λ(i:Nat)=>(VJ h.aa m (i:Int) d r).1) (ff (λi=>if(VJ h.aa m (i:Int) d r).2=a39 then M (([],a39):List bz×Bool)else s5) fs.length)):=by
  refine Gb (step:=Tl h m fs d r) (λt=>(((p! fs.length).map λ(i:Nat)=>(VJ h.aa m (i:Int) d r).1).take t,(t:Int))) _ fs.length _ (λt ht _=>?_) (λ_=>?_) o0
  .unfold Tl;dsimp only;rw[J,aZ6 hl m (t:Int) d r,a!];by_cases h:(VJ h.aa m (t:Int) d r).2=a39
   .rw[J h,J h];rfl
   .rw[p6 h,p6 h,Od o4,a!,pa U,nA ht];rfl
  simp_all[Tl,lac]
 rw[a,n6];unfold Xt;split<;>rfl
noncomputable def prS(l:List ka) (d r:Int) (m:Nat):Bool:=(VJ l (m:Int) (-1) d r).2&&(s6 ((VJ l (m:Int) (-1) d r).1.a=1)&&((VJ l (m:Int) (-1) d r).1.N==1))
theorem aj3{l:List ka}{m:Nat}:prS l d r m=((VJ l (m:Int) (-1) d r).2&&(s6 ((VJ l (m:Int) (-1) d r).1.a=1)&&((VJ l (m:Int) (-1) d r).1.N==1))):=rfl
noncomputable def Ur(h:ml) (d r:Int):List Int:=((p! (min (max h.s 0) 8).toNat).filter (prS h.aa d r)).map λ(m:Nat)=>(m:Int)
theorem WO{v:bz}{b:Bool}:(b? (α:=Bool) (if b=a38 then if v.a=1 then M (v.N==1)else M a39 else M a39) k)=k (b&&(s6 (v.a=1)&&(v.N==1))):=by
 grind
theorem tW{h:ml}(hl:h.aa.length<=1048576) (d r:Int):Bj h d r=M (Ur h d r):=by
 obtain⟨n,hn⟩:∃n,(min (max h.s 0) 8).toNat=n:=⟨_,rfl⟩;have hn8:n<=8:=U
 have bound:∀t,t<=n->(((p! t).filter (prS h.aa d r)).map λ(m:Nat)=>(m:Int)).length<=t:=by
  grind
 have e1:ca (tg h d r) (([]:List Int),0)=M (.inl (Ur h d r)):=by
  refine Nc (λt=>(((p! t).filter (prS h.aa d r)).map λ(m:Nat)=>(m:Int),(t:Int))) n _ (λt ht=>?_) ?_ rfl
  .have:=bound t U;unfold tg;dsimp only;rw[J,(WU hl (t:Int) (-1) d r).1,a!,WO,pa U,uac]
   grind[aj3,Od]
  grind[tg,Ur]
 grind[Bj]
theorem uW{h:ml}(hl:h.aa.length<=1048576) (d r:Int):Dq h d r=M (Ur h d r):=by
 obtain⟨n,hn⟩:∃n,(min (max h.s 0) 8).toNat=n:=⟨_,rfl⟩;have hn8:n<=8:=U
 have bound:∀t,t<=n->(((p! t).filter (prS h.aa d r)).map λ(m:Nat)=>(m:Int)).length<=t:=by
  grind
 have e2:ca (Xk h d r) (([]:List Int),0)=M (.inl (Ur h d r)):=by
  refine Nc (λt=>(((p! t).filter (prS h.aa d r)).map λ(m:Nat)=>(m:Int),(t:Int))) n _ (λt ht=>?_) ?_ rfl
  .have:=bound t U;unfold Xk;dsimp only;rw[J,a!,J o4,aZ6 hl (t:Int) (-1) d r,a!,WO,pa U,uac]
   grind[aj3,Od]
  grind[Xk,Ur]
 grind[Dq]
noncomputable def Rw(l:cb) (x:ek) (h:ml) (d r:Int):se×Int:=
 if d<0\/109572<d then(⟨0,[],[]⟩,3)else
 if(Xt h.aa (-1) x.w.length d r).2=a39 then(⟨0,[],[]⟩,6)else
 if((Ur h d r).all λm=>(Xt h.aa m (Vq l x).1.length d r).2)=a38 then(⟨d,(Xt h.aa (-1) x.w.length d r).1,(Ur h d r).map λm=>(Xt h.aa m (Vq l x).1.length d r).1⟩,0)else(⟨0,[],[]⟩,6)
theorem sW{L:List Int}(hL:L.length<=1048576) {v:Int->List bz×Bool}{g:Int->Option (List bz×Bool)}(d:∀m∈L,g m=M (v m)) {step:List (List bz)×Int->Option (Ex (List (List bz)×Int) (List (List bz)) (se×Int))}
 (e:∀a b,step (a,b)=if b<(a00 L:Int)then(c! L b).bind λm=>(g m).bind λx=>if x.2=a39 then M (.ret (⟨0,[],[]⟩,6))else(app 24 a ([x.1])).bind λq=>M (.go (q,aa .i64 (b+1)))else M (.brk a)) :
 ca step (([]:List (List bz)),0)=M (if(L.all λm=>(v m).2)=a38 then .inl (L.map λm=>(v m).1)else .inr (⟨0,[],[]⟩,6)):=by
 have c:ca step (([]:List (List bz)),0)=M (Rb (L.map λm=>(v m).1) (ff (λi=>if(L[i]?.any λm=>!(v m).2)=a38 then M ((⟨0,[],[]⟩,6):se×Int)else s5) L.length)):=by
  refine Gb (step:=step) (λt=>((L.map λm=>(v m).1).take t,(t:Int))) _ L.length _ (λt ht _=>?_) (λ_=>?_) o0
  .rw[e,J,va ht,a!,d _ (y! ht),a!,n! ht];simp only[xac];by_cases hv:(v L[t]).2=a39
   .grind[mE]
   .rw[p6 hv,Od o4,a!,pa U,N!]
    grind[mE]
  simp_all[lac]
 rw[c];by_cases ha:(L.all λm=>(v m).2)=a38
 .rw[J ha,db.2 (λi hi=>by
   simp_all)]
  rfl
 .rw[p6 ha]
  cases hf:ff (λi=>if(L[i]?.any λm=>!(v m).2)=a38 then M ((⟨0,[],[]⟩,6):se×Int)else s5) L.length with
  |none=>
   exfalso;apply ha;rw[R'];intro m hm;obtain⟨k,hk,rfl⟩:=H' hm
   grind[db]
  |some w=>
   obtain⟨k,_,h2,_⟩:=Qa.1 hf;split at h2
   .rw[←h2];rfl
   simp_all
theorem xK(h:ml) (d r:Int):(Ur h d r).length<=8:=by
 grind[Ur]
theorem HO{l:cb}(hl:m? l) (x:ek):(Vq l x).1.length<=1048576:=by
 unfold Vq;split
 .exact(hl.s _ (y! _)).2.2.1
 simp
theorem mQ{l:cb}(hl:m? l) {h:ml}(hf:h.aa.length<=1048576) {i:Nat}(hi:i<a00 l.e) (f:h.ai=(i:Int)) (d r:Int):cj l h d r=M (Rw l l.e[i] h d r):=by
 have c:=(hl.s _ (y! hi)).2.2.1;have e:=HO hl l.e[i];have hml:=xK h d r;unfold cj Rw;rw[OQ];by_cases hd:d<0\/109572<d
 .simp_all
 rw[p6 l5,p6 hd,f,va hi,a!,aW hf c,a!];by_cases hv:(Xt h.aa (-1) l.e[i].w.length d r).2=a39
 .simp_all
 rw[p6 hv,p6 hv,lA hi,a!,uW hf d r,a!];rw[sW (L:=Ur h d r) U (v:=λm=>Xt h.aa m (Vq l l.e[i]).1.length d r) (g:=λm=>Qp h m (Vq l l.e[i]).1 d r) (λm _=>aW hf e m d r) (step:=Qm h d r (Vq l l.e[i]) (Ur h d r)) (λa b=>by grind[Qm]),a!]
 grind
theorem GU{l:cb}(hl:m? l) (n:(Yo l).Code=0) {h:ml}(hv:(hhV l h).2=0) {i:Nat}(hi:i<a00 l.e) (k:h.ai=(i:Int)) (d r:Int):Bh l h d r=M (Rw l l.e[i] h d r):=by
 have c:=(hl.s _ (y! hi)).2.2.1;have e:=HO hl l.e[i];have hml:=xK h d r;obtain⟨i',j⟩:=OM hv;have hf:h.aa.length<=1048576:=by have:=j.f.len;omega
 unfold Bh Rw;rw[wk hl,a!,FB n,p6 o0,wi l h hl.ns,a!,p6 (v!.2 hv),OQ];by_cases hd:d<0\/109572<d
 .simp_all
 rw[p6 l5,p6 hd,k,va hi,a!,aQ hf c,a!];by_cases hv:(Xt h.aa (-1) l.e[i].w.length d r).2=a39
 .simp_all
 rw[p6 hv,p6 hv,oF hi,a!,tW hf d r,a!];rw[sW (L:=Ur h d r) U (v:=λm=>Xt h.aa m (Vq l l.e[i]).1.length d r) (g:=λm=>Ef h.aa m ((Vq l l.e[i]).1.length:Int) d r) (λm _=>aQ hf e m d r) (step:=Mn h d r (Vq l l.e[i]) (Ur h d r)) (λa b=>by grind[Mn]),a!]
 grind
def av9(l:cb) (fs:List mu) (vs:List bz):Prop:=a00 vs=a00 fs/\∀j (h1:j<a00 vs) (h2:j<a00 fs),vs[j].a=fs[j].ao.a/\vs[j].g=fs[j].ao.g/\YV vs[j].N fs[j].ao l.r=a38
theorem HE{l:cb}{vs:List bz}(hl:fs.length<=1048576) (h:av9 l fs vs):Hf l vs fs=M (0,0):=by
 obtain⟨h1,h2⟩:=h;unfold Hf;rw[p6,p6];have:ca (Jf l vs fs) 0=M (.inl ()):=by
  refine Nc (λi=>(i:Int)) vs.length _ (λi hi=>?_) ?_ rfl
  .obtain⟨a,b,c⟩:=h2 i hi U;unfold Jf;rw[J,va hi,a!,va U,a!,aU4,w2 (p:=¬(vs[i].a=(fs[i]' U).ao.a/\vs[i].g=(fs[i]' U).ao.g)) (λh=>h ⟨a,b⟩),p6 o0,Cl,a!,inO]
   grind[YV,pa]
  simp_all[Jf]
 simp_all
theorem o6{l:cb}{x:ek}{h:ml}{i:Nat}(a:bu4 l h i) (hx:l.e[i]'a.hi=x) (hm:fs=if m = -1 then x.w else(Vq l x).1) (hv:(Xt h.aa m fs.length d r).2=a38):av9 l fs (Xt h.aa m fs.length d r).1:=by
 unfold Xt at hv⊢;split at hv
 case isFalse=>grind
 rename_i ha;rw[J ha];refine⟨o0,λj b h2=>?_⟩;simp only[Mab,List.length_range]at b;simp only[Zac,Kae];have hj:=R'.1 ha j l5;have hf:h.aa.length<=1048576:=by have:=a.f.len;omega
 rcases(WU hf m (j:Int) d r).2 with⟨e,-⟩|⟨f,f1,f2,f3,-⟩
 .simp_all
 .rw[f2];dsimp only;obtain⟨-,t,t1,t2,t3,t4⟩:=a.t f f1;unfold Fv at f3;simp only[E!,w3]at f3;unfold ap7 at t1
  simp_all
theorem US{l:cb}(hl:m? l) (q:(Yo l).Code=0) {h:ml}{i:Nat}(a:bu4 l h i) (hc:(Rw l (l.e[i]'a.hi) h d r).2=0) {def_:Int}(hd:0<=def_/\def_<((l.e[i]'a.hi).d.length:Int)) :
 tc l (i:Int) (Rw l (l.e[i]'a.hi) h d r).1 a38 def_=M DU/\(Rw l (l.e[i]'a.hi) h d r).1.s.length<=8:=by
 have hi:=a.hi;have e:=(hl.s _ (y! hi)).2.2.1;have g:=HO hl l.e[i];have hml:=xK h d r;have hns:=hl.ns;unfold Rw at hc⊢;split at hc
 .omega
 rename_i p;rw[p6 p];split at hc
 .omega
 rename_i h2;rw[p6 h2];split at hc
 case isFalse=>omega
 rename_i n;rw[J n];have h2:(Xt h.aa (-1) l.e[i].w.length d r).2=a38:=l5
 have t:=o6 a rfl (m:=-1) (fs:=l.e[i].w) o0 h2;refine⟨?_,l5⟩;unfold tc;rw[wk hl,a!,p6 (v!.2 q),va hi,a!];have b:(if¬(i:Int)<0 then if¬(a00 l.e:Int)<=(i:Int)then if a38=a38 then if¬def_<0 then M (s6 ((l.e[i].d.length:Int)<=def_))else M a38 else M a39 else M a38 else M a38)=M a39:=by
  simp_all
 rw[b,a!,p6 o0];have c:Xl l (i:Int) ⟨d,(Xt h.aa (-1) l.e[i].w.length d r).1,(Ur h d r).map λm=>(Xt h.aa m (Vq l l.e[i]).1.length d r).1⟩=M (0,0,0):=by
  unfold Xl;dsimp only;rw[OQ,p6 l5,OQ,p6 l5,va hi,a!,HE e t,a!,p6 o0,GO hi,a!];have hlim:¬(if(Vq l l.e[i]).2=a38 then(8:Int)else 0)<(((Ur h d r).map λm=>(Xt h.aa m (Vq l l.e[i]).1.length d r).1).length:Int):=by
   rw[Mab];split
   .omega
   .rename_i hb;have hm0:h.s=0:=Wad λo=>hb (a.ms o)
    grind[Ur]
  rw[p6 hlim];have hlp:ca (si l ⟨d,(Xt h.aa (-1) l.e[i].w.length d r).1,(Ur h d r).map λm=>(Xt h.aa m (Vq l l.e[i]).1.length d r).1⟩ ((Vq l l.e[i]).1,if(Vq l l.e[i]).2=a38 then 8 else 0)) 0=M (.inl ()):=by
   refine Nc (λi=>(i:Int)) (Ur h d r).length _ (λj hj=>?_) ?_ rfl
   .unfold si;dsimp only;rw[J l5,va l5,a!];simp only[Zac];have f:=y! hj;have k:=R'.1 n _ f;have hne:(Ur h d r)[j]≠-1:=by
     grind[Ur]
    rw[HE g (o6 a rfl (fs:=(Vq l l.e[i]).1) l5 k),a!,p6 o0,pa U]
   simp_all[si]
  simp_all
 rw[c];rfl
structure γ (l:cb) (i:Nat) (c:ma):Prop where
 v:(Yo l).Code=0
 hi:i<a00 l.e
 d:0<=c.u/\c.u<((l.e[i]'hi).d.length:Int)
 r:0<=c.aw/\c.aw<=5
theorem E7{l:cb}(h:m? l) {c:ma}(hv:Xb l sc c=M 0):∃i:Nat,sc=(i:Int)/\γ l i c:=by
 unfold Xb Bu at hv;rw[VC h]at hv;simp only[a!]at hv;by_cases f:(Yo l).Code=0
 case neg=>
  simp_all
 have:((Yo l).Code==0)=a38:=l5
 rw[this,p6 o0]at hv;by_cases a:sc<0
 .simp_all
 by_cases h2:(a00 l.e:Int)<=sc
 .simp_all
 by_cases b:c.u<0
 .simp_all
 obtain⟨i,rfl⟩:=V' (show 0<=sc by omega);have hi:i<a00 l.e:=U
 rw[J a,J h2,J b,va hi]at hv;simp only[a!]at hv;by_cases d:(l.e[i].d.length:Int)<=c.u
 .simp_all
 rw[w2 d,p6 o0,nh U U]at hv;simp only[a!,gS]at hv;split at hv
 .grind
 by_cases e:0<=c.aw/\c.aw<=5
 .exact⟨i,rfl,f,hi,U,e⟩
 simp_all
theorem as3{l:cb}(h:m? l) {c:ma}(hv:Ja l sc c=M 0):∃i:Nat,sc=(i:Int)/\γ l i c:=by
 unfold Ja at hv;rw[wk h,a!]at hv;by_cases a:(Yo l).Code=0
 case neg=>simp_all
 rw[FB a,p6 o0]at hv;by_cases b:sc<0
 .grind
 by_cases h2:(a00 l.e:Int)<=sc
 .grind
 by_cases d:c.u<0
 .grind
 obtain⟨i,rfl⟩:=V' (show 0<=sc by omega);have hi:i<a00 l.e:=U
 rw[J b,J h2,J d,va hi]at hv;simp only[a!]at hv;by_cases e:(l.e[i].d.length:Int)<=c.u
 .simp_all
 rw[w2 e,p6 o0,nh U U]at hv;simp only[a!,rng]at hv;split at hv
 .grind
 by_cases f:0<=c.aw/\c.aw<=5
 .exact⟨i,rfl,a,hi,U,f⟩
 grind
noncomputable def nc(l:cb) (i:Nat) (h:ml) (def_ rec d:Int):bz×Int:=
 match l.e[i]? with
 |none=>(⟨0,0,0⟩,1)
 |some x=>
  if¬(Rw l x h d rec).2=0 then(⟨0,0,0⟩,(Rw l x h d rec).2)else
  ((((Hc l (i:Int) (Rw l x h d rec).1 def_).getD (⟨0,0,0⟩,0,DU)).1),((Hc l (i:Int) (Rw l x h d rec).1 def_).getD (⟨0,0,0⟩,0,DU)).2.2.Code)
structure Ctx (l:cb) (h:ml) (c:ma) (i:Nat):Prop where
 ok:m? l
 few:∀x∈l.e,a00 x.f<=64
 cf:γ l i c
 hv:(hhV l h).2=0
 sc:h.ai=(i:Int)
variable {l:cb}{i:Nat}{c:ma}{h:ml}
theorem VT(H:Ctx l h c i) (rec d:Int):∃q:se×Int,Bh l h d rec=M q/\cj l h d rec=M q/\
 ((q.2≠0/\nc l i h c.u rec d=(⟨0,0,0⟩,q.2))\/(q.2=0/\∃p,Hc l h.ai q.1 c.u=M p/\Nh l h.ai q.1 c.u=M p/\nc l i h c.u rec d=(p.1,p.2.2.Code)/\(p.2.2.Code=0->K6 p.1))):=by
 have hi:=H.cf.hi;obtain⟨e,a⟩:=OM H.hv;have b:e=i:=by have:=a.sc;have:=H.sc;omega
 subst b;have hf:h.aa.length<=1048576:=by have:=a.f.len;omega
 refine⟨Rw l l.e[e] h d rec,GU H.ok H.cf.v H.hv hi H.sc d rec,mQ H.ok hf hi H.sc d rec,?_⟩;unfold nc;rw[n! hi];dsimp only;by_cases hc:(Rw l l.e[e] h d rec).2=0
 .right;refine⟨hc,?_⟩;obtain⟨g,k2⟩:=US H.ok H.cf.v a hc H.cf.d;obtain⟨p,j,k,p3⟩:=nQ H.ok (NF H.cf.v) H.few hi H.cf.d U g;rw[p6 (v!.2 hc),H.sc,j,k]
  simp_all
 simp_all
theorem ab3{v:bz}(h:K6 v):-1000000000000000<=v.N/\v.N<=1000000000000000:=by
 rcases h with h|h
 .simp_all
 .have:=h.range;omega
theorem UT(H:Ctx l h c i) (rec d:Int) (h0:(nc l i h c.u rec d).2=0):-1000000000000000<=(nc l i h c.u rec d).1.N/\(nc l i h c.u rec d).1.N<=1000000000000000:=by
 obtain⟨q,-,-,hq⟩:=VT H rec d;rcases hq with⟨q1,q2⟩|⟨-,p,-,-,p3,p4⟩
 all_goals simp_all[ab3]
def Qw:Int->List ia->Int->Prop
 |a,[],b=>a=b
 |a,p::l,b=>p.n=a/\p.n<p.To/\Qw p.To l b
theorem FE{to:Int}:∀{a:Int}{l:List Int},a<to->l.Pairwise (·<·)->(∀x∈l,a<x/\x<to)->Qw a (Fy to a l) to
 |a,[],h,_,_=>⟨rfl,h,rfl⟩
 |a,x::l,h,b,hm=>by
  rw[List.pairwise_cons]at b;have hx:=hm x o0;exact⟨rfl,hx.1,FE hx.2 b.2 λy c=>⟨b.1 y c,(hm y o4).2⟩⟩
def Mw(v:Int->Int) (l:List ia):Int:=(l.map λp=>v p.n*(p.To-p.n)).sum
def Lr(l:List ia):Int:=(l.map λp=>p.To-p.n).sum
theorem Jr:∀{a b:Int}{l:List ia},Qw a l b->Lr l=b-a/\a<=b
 |a,b,[],h=>by simp only[Qw]at h;grind[Lr]
 |a,b,p::l,h=>by
  obtain⟨h1,h2,c⟩:=h;obtain⟨h4,h5⟩:=Jr c
  grind[Lr]
theorem iL{v:Int->Int}{l:List ia}:Mw v (l++[p])=Mw v l+v p.n*(p.To-p.n):=by simp[Mw]
theorem uR{l:List ia}:Lr (l++[p])=Lr l+(p.To-p.n):=by simp[Lr]
theorem sH:∀{a b:Int}{l:List ia}(j:Nat),Qw a l b->∃c,Qw a (l.take j) c/\c<=b
 |a,b,l,0,h=>⟨a,by simp[Qw],(Jr h).2⟩
 |a,b,[],j+1,h=>⟨b,l5,iae _⟩
 |a,b,p::l,j+1,h=>by
  obtain⟨d,h2,e⟩:=h;obtain⟨c,f,g⟩:=sH j e;exact⟨c,⟨d,h2,f⟩,g⟩
theorem UF:∀{a b:Int}{l:List ia},Qw a l b->∀p∈l,a<=p.n/\p.n<p.To/\p.To<=b
 |a,b,[],h,p,c=>by simp at c
 |a,b,q::l,h,p,c=>by
  obtain⟨h1,h2,d⟩:=h;have h4:=(Jr d).2;rcases Z'.1 c with rfl|c
  .omega
  .have:=UF d p c;omega
theorem aI9{n k:Int}{B:Nat}(h1:-(B:Int)<=n/\n<=B) (h2:0<=k):-(B*k)<=n*k/\n*k<=B*k:=by
 constructor
 .rw[←Int.neg_mul];simp_all[rac]
 simp_all[rac]
theorem dQ{v:Int->Int}:∀{a b:Int}{l:List ia},Qw a l b->(∀p∈l,-1000000000000000<=v p.n/\v p.n<=1000000000000000)->-(1000000000000000*Lr l)<=Mw v l/\Mw v l<=1000000000000000*Lr l
 |a,b,[],h,hv=>by simp[Mw,Lr]
 |a,b,p::l,h,hv=>by
  obtain⟨h1,h2,c⟩:=h;have ih:=dQ c λq hq=>hv q o4;have hp:=aI9 (n:=v p.n) (k:=p.To-p.n) (B:=1000000000000000) (hv p o0) U
  grind[Mw,Lr]
noncomputable def yE(v:Int->bz×Int) (rounding:Int) (l:List ia):Int×Int:=
 match ff (λj=>match l[j]? with|some p=>if¬(v p.n).2=0 then M (v p.n).2 else s5|none=>s5) l.length with
 |some e=>(0,e)
 |none=>(max (tR (Mw (λd=>(v d).1.N) l) (Lr l) rounding).1 0,0)
theorem RU(H:Ctx l h c i) (hq:Qw a q b) (hab:a<b/\b-a<=31) (hlen:q.length<=65536) (rec m:Int) :
 Mj l h c q rec=M (yE (nc l i h c.u rec) c.aw q)/\
 ((ca (Re l h c m rec q) (0,0)).bind (λy=>match y with|.inr v=>M v|.inl I=>(M (b-a)).bind λL=>(Hk I L c.aw).bind λE=>b? (α:=Int) (if E.1<0 then M 0 else M E.1) λK=>M (ke.mk m K 0)))=M ⟨m,(yE (nc l i h c.u rec) c.aw q).1,(yE (nc l i h c.u rec) c.aw q).2⟩:=by
 have o:∀j (hj:j<a00 q),(∀k,k<j->(match q[k]? with|some p=>if¬(nc l i h c.u rec p.n).2=0 then M (nc l i h c.u rec p.n).2 else s5|none=>(s5:Option Int))=s5)->
  (0<=Lr (q.take j)/\Lr (q.take j)<=31)/\-(1000000000000000*Lr (q.take j))<=Mw (λd=>(nc l i h c.u rec d).1.N) (q.take j)/\Mw (λd=>(nc l i h c.u rec d).1.N) (q.take j)<=1000000000000000*Lr (q.take j):=by
  intro j hj hn;obtain⟨e,O,h2⟩:=sH j hq;obtain⟨h3,h4⟩:=Jr O;refine⟨U,dQ O λp j9=>?_⟩;obtain⟨k,hk,rfl⟩:=H' j9;rw[Aac]at hk;have:=hn k U;rw[n! U]at this
  simp_all[UT]
 have x:(∀k,k<a00 q->(match q[k]? with|some p=>if¬(nc l i h c.u rec p.n).2=0 then M (nc l i h c.u rec p.n).2 else s5|none=>(s5:Option Int))=s5)->
  -(1000000000000000*Lr q)<=Mw (λd=>(nc l i h c.u rec d).1.N) q/\Mw (λd=>(nc l i h c.u rec d).1.N) q<=1000000000000000*Lr q:=by
  intro hn;refine dQ hq λp j9=>?_;obtain⟨k,hk,rfl⟩:=H' j9
  simp_all[UT]
 generalize P:nc l i h c.u rec=V at *;have D:∀j (hj:j<a00 q),(∀k,k<j->(match q[k]? with|some p=>if¬(V p.n).2=0 then M (V p.n).2 else s5|none=>(s5:Option Int))=s5)->
  (-1000000000000000<=(V q[j].n).1.N/\(V q[j].n).1.N<=1000000000000000\/¬(V q[j].n).2=0):=by
  intro j hj _;by_cases s:(V q[j].n).2=0
  .left;have:=UT H rec q[j].n l5
   simp_all
  omega
 have e1:ca (je l h c q rec) (0,0,0)=M (Rb (Mw (λd=>(V d).1.N) q,Lr q) (ff (λj=>(match q[j]? with|some p=>if¬(V p.n).2=0 then M (V p.n).2 else s5|none=>(s5:Option Int)).map λe=>((0:Int),e)) q.length)):=by
  refine Gb (step:=je l h c q rec) (λj=>(Mw (λd=>(V d).1.N) (q.take j),Lr (q.take j),(j:Int))) _ q.length _ (λj hj hn=>?_) (λ_=>?_) rfl
  .have f:∀k,k<j->(match q[k]? with|some p=>if¬(V p.n).2=0 then M (V p.n).2 else s5|none=>(s5:Option Int))=s5:=λk hk=>by
    simp_all
   obtain⟨s1,s2,Q⟩:=o j hj f;have hm:=UF hq _ (y! hj);obtain⟨z,j6,-,G⟩:=VT H rec q[j].n;rw[P]at G;have hb:=D j hj f;unfold je;dsimp only;rw[J,va hj,a!,j6,a!,n! hj];dsimp only;rcases G with⟨t,C⟩|⟨t,p,C,-,F,R⟩
   .rw[J t,C,J t];rfl
   .rw[p6 (v!.2 t),C,a!];have yN:(V q[j].n).1=p.1:=by rw[F]
    have yC:(V q[j].n).2=p.2.2.Code:=by rw[F]
    by_cases s:p.2.2.Code=0
    .rw[p6 (v!.2 s),yC,p6 (v!.2 s)];have w:-1000000000000000<=p.1.N/\p.1.N<=1000000000000000:=by
      simp_all
     have A:=aI9 (n:=p.1.N) (k:=q[j].To-q[j].n) (B:=1000000000000000) w U;rw[show((1000000000000000:Nat):Int)=1000000000000000 from rfl]at A;rw[f? (n:=q[j].To-q[j].n) U U,f? (n:=p.1.N*(q[j].To-q[j].n)) U U,f? U U,f? U U,pa U,N!,n! hj];simp only[Bab,iL,uR,yN];rfl
    .rw[J s,yC,J s];rfl
  simp_all[je]
 have e2:ca (Re l h c m rec q) (0,0)=M (Rb (Mw (λd=>(V d).1.N) q) (ff (λj=>(match q[j]? with|some p=>if¬(V p.n).2=0 then M (V p.n).2 else s5|none=>(s5:Option Int)).map λe=>(ke.mk m 0 e)) q.length)):=by
  refine Gb (step:=Re l h c m rec q) (λj=>(Mw (λd=>(V d).1.N) (q.take j),(j:Int))) _ q.length _ (λj hj hn=>?_) (λ_=>?_) rfl
  .have f:∀k,k<j->(match q[k]? with|some p=>if¬(V p.n).2=0 then M (V p.n).2 else s5|none=>(s5:Option Int))=s5:=λk hk=>by
    simp_all
   obtain⟨s1,s2,Q⟩:=o j hj f;have hm:=UF hq _ (y! hj);obtain⟨z,-,j6,G⟩:=VT H rec q[j].n;rw[P]at G;have hb:=D j hj f;unfold Re;dsimp only;rw[J,va hj,a!,j6,a!,n! hj];dsimp only;rcases G with⟨t,C⟩|⟨t,p,-,C,F,R⟩
   .rw[J t,C,J t];rfl
   .rw[p6 (v!.2 t),C,a!];have yN:(V q[j].n).1=p.1:=by rw[F]
    have yC:(V q[j].n).2=p.2.2.Code:=by rw[F]
    by_cases s:p.2.2.Code=0
    .rw[p6 (v!.2 s),yC,p6 (v!.2 s)];have w:-1000000000000000<=p.1.N/\p.1.N<=1000000000000000:=by
      simp_all
     have A:=aI9 (n:=p.1.N) (k:=q[j].To-q[j].n) (B:=1000000000000000) w U;rw[show((1000000000000000:Nat):Int)=1000000000000000 from rfl]at A;rw[f? (n:=q[j].To-q[j].n) U U,f? (n:=p.1.N*(q[j].To-q[j].n)) U U,f? U U,pa U,N!,n! hj];simp only[Bab,iL,yN];rfl
    .rw[J s,yC,J s];rfl
  simp_all[Re]
 have u:∀{ρ:Type} (g:Int->ρ),ff (λj=>(match q[j]? with|some p=>if¬(V p.n).2=0 then M (V p.n).2 else s5|none=>(s5:Option Int)).map g) q.length=(ff (λj=>match q[j]? with|some p=>if¬(V p.n).2=0 then M (V p.n).2 else s5|none=>(s5:Option Int)) q.length).map g:=λg=>lK g;unfold Mj yE;rw[e1,e2,u,u];obtain⟨d1,d2⟩:=Jr hq
 cases hf:ff (λj=>match q[j]? with|some p=>if¬(V p.n).2=0 then M (V p.n).2 else s5|none=>(s5:Option Int)) q.length with
 |some e=>exact⟨rfl,rfl⟩
 |none=>
  have hw:=x (db.1 hf);simp only[Sad,BK,a!];rw[Kh,QC,←d1];simp only[a!];have hr:=H.cf.r;have hdz:(tR (Mw (λd=>(V d).1.N) q) (Lr q) c.aw).2=0:=by
   grind[tR]
  grind
theorem U4(H:Ctx l h c i) (rec d:Int):∃q:se×Int,Bh l h d rec=M q/\
 ((q.2≠0/\nc l i h c.u rec d=(⟨0,0,0⟩,q.2))\/(q.2=0/\∃p,Hc l h.ai q.1 c.u=M p/\nc l i h c.u rec d=(p.1,p.2.2.Code)/\(p.2.2.Code=0->K6 p.1))):=by
 have hi:=H.cf.hi;obtain⟨b,e⟩:=OM H.hv;have a:b=i:=by have:=e.sc;have:=H.sc;omega
 subst a;refine⟨Rw l l.e[b] h d rec,GU H.ok H.cf.v H.hv hi H.sc d rec,?_⟩;unfold nc;rw[n! hi];dsimp only;by_cases hc:(Rw l l.e[b] h d rec).2=0
 .right;refine⟨hc,?_⟩;obtain⟨f,k2⟩:=US H.ok H.cf.v e hc H.cf.d;obtain⟨p,g,p3⟩:=F6 H.ok (NF H.cf.v) H.few hi H.cf.d U f;rw[p6 (v!.2 hc),H.sc,g]
  simp_all
 simp_all
theorem eJ(H:Ctx l h c i) (rec d:Int) (h0:(nc l i h c.u rec d).2=0):-1000000000000000<=(nc l i h c.u rec d).1.N/\(nc l i h c.u rec d).1.N<=1000000000000000:=by
 obtain⟨q,-,hq⟩:=U4 H rec d;rcases hq with⟨q1,q2⟩|⟨-,p,-,p3,p4⟩
 all_goals simp_all[ab3]
theorem av3(H:Ctx l h c i) (hq:Qw a q b) (hab:a<b/\b-a<=31) (hlen:q.length<=65536) (rec:Int) :
 Mj l h c q rec=M (yE (nc l i h c.u rec) c.aw q):=by
 have m:∀j (hj:j<a00 q),(∀k,k<j->(match q[k]? with|some p=>if¬(nc l i h c.u rec p.n).2=0 then M (nc l i h c.u rec p.n).2 else s5|none=>(s5:Option Int))=s5)->
  (0<=Lr (q.take j)/\Lr (q.take j)<=31)/\-(1000000000000000*Lr (q.take j))<=Mw (λd=>(nc l i h c.u rec d).1.N) (q.take j)/\Mw (λd=>(nc l i h c.u rec d).1.N) (q.take j)<=1000000000000000*Lr (q.take j):=by
  intro j hj hn;obtain⟨e,C,h2⟩:=sH j hq;obtain⟨h3,h4⟩:=Jr C;refine⟨U,dQ C λp x=>?_⟩;obtain⟨k,hk,rfl⟩:=H' x;rw[Aac]at hk;have:=hn k U;rw[n! U]at this
  simp_all[eJ]
 have f:(∀k,k<a00 q->(match q[k]? with|some p=>if¬(nc l i h c.u rec p.n).2=0 then M (nc l i h c.u rec p.n).2 else s5|none=>(s5:Option Int))=s5)->
  -(1000000000000000*Lr q)<=Mw (λd=>(nc l i h c.u rec d).1.N) q/\Mw (λd=>(nc l i h c.u rec d).1.N) q<=1000000000000000*Lr q:=by
  intro hn;refine dQ hq λp x=>?_;obtain⟨k,hk,rfl⟩:=H' x
  simp_all[eJ]
 generalize F:nc l i h c.u rec=V at *;have w:∀j (hj:j<a00 q),(∀k,k<j->(match q[k]? with|some p=>if¬(V p.n).2=0 then M (V p.n).2 else s5|none=>(s5:Option Int))=s5)->
  (-1000000000000000<=(V q[j].n).1.N/\(V q[j].n).1.N<=1000000000000000\/¬(V q[j].n).2=0):=by
  intro j hj _;by_cases o:(V q[j].n).2=0
  .left;have:=eJ H rec q[j].n l5
   simp_all
  omega
 have e1:ca (je l h c q rec) (0,0,0)=M (Rb (Mw (λd=>(V d).1.N) q,Lr q) (ff (λj=>(match q[j]? with|some p=>if¬(V p.n).2=0 then M (V p.n).2 else s5|none=>(s5:Option Int)).map λe=>((0:Int),e)) q.length)):=by
  refine Gb (step:=je l h c q rec) (λj=>(Mw (λd=>(V d).1.N) (q.take j),Lr (q.take j),(j:Int))) _ q.length _ (λj hj hn=>?_) (λ_=>?_) rfl
  .have t:∀k,k<j->(match q[k]? with|some p=>if¬(V p.n).2=0 then M (V p.n).2 else s5|none=>(s5:Option Int))=s5:=λk hk=>by
    simp_all
   obtain⟨s1,s2,s3⟩:=m j hj t;have hm:=UF hq _ (y! hj);obtain⟨z,G,E⟩:=U4 H rec q[j].n;rw[F]at E;have hb:=w j hj t;unfold je;dsimp only;rw[J,va hj,a!,G,a!,n! hj];dsimp only;rcases E with⟨u,A⟩|⟨u,p,A,D,y4⟩
   .rw[J u,A,J u];rfl
   .rw[p6 (v!.2 u),A,a!];have yN:(V q[j].n).1=p.1:=by rw[D]
    have yC:(V q[j].n).2=p.2.2.Code:=by rw[D]
    by_cases o:p.2.2.Code=0
    .rw[p6 (v!.2 o),yC,p6 (v!.2 o)];have v:-1000000000000000<=p.1.N/\p.1.N<=1000000000000000:=by
      simp_all
     have y:=aI9 (n:=p.1.N) (k:=q[j].To-q[j].n) (B:=1000000000000000) v U;rw[show((1000000000000000:Nat):Int)=1000000000000000 from rfl]at y;rw[f? (n:=q[j].To-q[j].n) U U,f? (n:=p.1.N*(q[j].To-q[j].n)) U U,f? U U,f? U U,pa U,N!,n! hj];simp only[Bab,iL,uR,yN];rfl
    .rw[J o,yC,J o];rfl
  simp_all[je]
 have s:∀{ρ:Type} (g:Int->ρ),ff (λj=>(match q[j]? with|some p=>if¬(V p.n).2=0 then M (V p.n).2 else s5|none=>(s5:Option Int)).map g) q.length=(ff (λj=>match q[j]? with|some p=>if¬(V p.n).2=0 then M (V p.n).2 else s5|none=>(s5:Option Int)) q.length).map g:=λg=>lK g;unfold Mj yE;rw[e1,s];obtain⟨d1,d2⟩:=Jr hq
 cases hf:ff (λj=>match q[j]? with|some p=>if¬(V p.n).2=0 then M (V p.n).2 else s5|none=>(s5:Option Int)) q.length with
 |some e=>rfl
 |none=>
  have hw:=f (db.1 hf);simp only[Sad,BK,a!];rw[Kh];simp only[a!];have hr:=H.cf.r
  grind[tR]
noncomputable def uQ(l:cb) (h:ml) (rec:Int):List Int:=Yd ((Yd (t? (cI rec h.aa))).filter Nj++(Yd (t? (oz l.Tables++mz l.e))).filter Nj)
theorem bq6(rec:Int) (hl:E' l) (hh:h.aa.length<=64):jb l h rec=M (uQ l h rec)/\(uQ l h rec).Pairwise (·<·)/\(uQ l h rec).length<=65536/\
 ∃a b,We h.aa rec=M a/\Ue l=M b/\a.length<=1048576/\b.length<=1048576/\∀x,x∈uQ l h rec↔x∈a\/x∈b:=by
 have k1:=xz (l:=h.aa) rec U;have k2:=pv hl;obtain⟨ra,a1,a2,a3⟩:=FG (l:=h.aa) rec U;obtain⟨rb,b1,b2,b3⟩:=EG hl;have n1:=Ξ Nj (Yd (t? (cI rec h.aa)));have n2:=gx (t? (cI rec h.aa));have n3:=eu (cI rec h.aa);have n4:=SM rec h.aa;have m1:=Ξ Nj (Yd (t? (oz l.Tables++mz l.e)));have m2:=gx (t? (oz l.Tables++mz l.e));have m3:=eu (oz l.Tables++mz l.e);have m4:=GA hl.t;have m5:=BA hl.s;have m6:=hl.nt;have m7:=hl.ns;rw[Τ]at m3;have hcd:jb l h rec=M (uQ l h rec):=by
  grind[jb,uQ,lst,nV,pX]
 grind[uQ,Of]
noncomputable def HW(l:cb) (h:ml) (m rec:Int):List ia:=Fy (Wa m).1.To (Wa m).1.n ((uQ l h rec).filter (C' (Wa m).1))
theorem IW(hm:(Wa m).2=0) (hl:E' l) (a:h.aa.length<=64):Qw (Wa m).1.n (HW l h m rec) (Wa m).1.To/\(HW l h m rec).length<=65537:=by
 obtain⟨-,h2,h3,-⟩:=bq6 (l:=l) (h:=h) rec hl a;have hr:=Hx hm
 grind[C',HW,FE,CK]
theorem bf6(hm:(Wa m).2=0) (hl:E' l) (d:h.aa.length<=64):(HW l h m rec).length<=65536:=by
 obtain⟨c,h2⟩:=IW (rec:=rec) hm hl d;have hr:=Hx hm;have:∀{a b:Int} {q:List ia},Qw a q b->(a00 q:Int)<=b-a:=by
  intro a b q
  induction q generalizing a with
  |nil=>intro h;simp only[Qw]at h;simp_all
  |cons p q ih=>
   intro h;obtain⟨e1,e2,e3⟩:=h
   grind
 have h4:=this c;have h5:(Wa m).1.To-(Wa m).1.n<=31:=by
  unfold Wa at hm⊢;split at hm
  .rename_i hc;rw[J hc];have:=uf (y:=1900+((m.toNat / 12:Nat):Int)) (m:=((m.toNat % 12:Nat):Int)+1)
   grind
  omega
 omega
theorem wZ(hm:(Wa m).2=0):Wu m=M ((Wa m).1.To-(Wa m).1.n)/\(Wa m).1.n<(Wa m).1.To/\(Wa m).1.To-(Wa m).1.n<=31/\0<=m/\m<=3599:=by
 have hr:=Hx hm;unfold Wa at hm;split at hm
 case isFalse=>omega
 rename_i hc;have hd:=uf (y:=1900+((m.toNat / 12:Nat):Int)) (m:=((m.toNat % 12:Nat):Int)+1);have e:(Wa m).1.To-(Wa m).1.n=Cn (1900+((m.toNat / 12:Nat):Int)) (((m.toNat % 12:Nat):Int)+1):=by
  grind[Wa]
 refine⟨?_,hr.2.1,U,hc.1,hc.2⟩;obtain⟨e1,e2⟩:=jL hc.1 hc.2;unfold Wu;rw[ZG,a!,p6 l5,e1,e2,vc U U U,e];rfl
theorem uN(hl:m? l) (few:∀x∈l.e,a00 x.f<=64) (f:h.aa.length<=1048576) (hc:c.au.as.length<=1048576) :
 ∃b,Zc l h c=M b/\np l h c=M b/\(b=a38->∃i,Ctx l h c i):=by
 obtain⟨n,g,e⟩:=F7 hl hc h.ai;unfold Zc np;rw[g,e,QK l h hl.ns f,wi l h hl.ns];simp only[a!];by_cases a:n=0
 .rw[p6 (v!.2 a),J a];refine⟨_,rfl,rfl,λhb=>?_⟩;subst a;obtain⟨i,hi,d⟩:=E7 hl e;exact⟨i,hl,few,d,l5,hi⟩
 simp_all
theorem L4(hm:(Wa m).2=0):(Wa m).1.n<(Wa m).1.To/\(Wa m).1.To-(Wa m).1.n<=31/\0<=m/\m<=3599:=by
 grind[Wa,Cn]
theorem rN(hl:m? l) (few:∀x∈l.e,a00 x.f<=64) (hh:h.aa.length<=1048576) (hc:c.au.as.length<=1048576) :
 ∃b,Zc l h c=M b/\(b=a38->∃i,Ctx l h c i):=by
 obtain⟨n,e⟩:=oV hl hc h.ai;unfold Zc;rw[e,wi l h hl.ns];simp only[a!];by_cases d:n=0
 .rw[p6 (v!.2 d)];refine⟨_,rfl,λhb=>?_⟩;subst d;obtain⟨i,hi,a⟩:=as3 hl e;exact⟨i,hl,few,a,l5,hi⟩
 simp_all
noncomputable def BE(l:cb) (h:ml) (c:ma) (m rec:Int):ke:=
 if¬(Wa m).2=0 then⟨m,0,3⟩else if(Zc l h c).getD a39=a39 then⟨m,0,1⟩else
 ⟨m,(yE (nc l h.ai.toNat h c.u rec) c.aw (HW l h m rec)).1,(yE (nc l h.ai.toNat h c.u rec) c.aw (HW l h m rec)).2⟩
theorem oQ(hl:m? l) (d:E' l) (e:h.aa.length<=64) (hc:c.au.as.length<=1048576) (m rec:Int) :
 CE l h c m rec=M (BE l h c m rec)/\vA l h c m rec=M (BE l h c m rec):=by
 obtain⟨b,f,g,j⟩:=uN hl (λx hx=>N? (d.s x hx) p5) (h:=h) U hc;unfold CE vA BE;rw[UG,a!,OQ];by_cases hm:(Wa m).2=0
 case neg=>
  have:m<0\/3599<m:=by
   grind[Wa]
  simp_all
 obtain⟨q1,u,v,q4,q5⟩:=wZ hm;rw[p6 (v!.2 hm),p6 (v!.2 hm),w2 (p:=m<0\/3599<m) U,p6 (show¬(a39=a38)from λh=>nomatch h),f,g,a!,a!,κ]
 cases b with
 |false=>simp
 |true=>
  obtain⟨i,H⟩:=j rfl;rw[p6 o0,p6 o0,p6 o0];obtain⟨d1,d2,k,a,bb,n,o,q,r,t⟩:=bq6 (l:=l) (h:=h) rec d e;have hr:=Hx hm;obtain⟨c1,-⟩:=IW (rec:=rec) hm d e;obtain⟨e1,e2⟩:=RU H c1 ⟨u,v⟩ (bf6 hm d e) rec m;have hi:h.ai.toNat=i:=by have:=H.sc;omega
  rw[d1,n,o];simp only[a!];rw[DE d2 k hr,a!];unfold ck;rw[QQ,a!,rP d2 q r t hr,a!,q1];rw[show Fy (Wa m).1.To (Wa m).1.n ((uQ l h rec).filter (C' (Wa m).1))=HW l h m rec from rfl]
  grind
theorem cq7(rec:Int) (hl:E' l) (hh:h.aa.length<=64):jb l h rec=M (uQ l h rec)/\(uQ l h rec).Pairwise (·<·)/\(uQ l h rec).length<=65536/\
 ∀x,x∈uQ l h rec↔(x∈t? (cI rec h.aa)/\Nj x=a38)\/(x∈t? (oz l.Tables++mz l.e)/\Nj x=a38):=by
 have k1:=xz (l:=h.aa) rec U;have k2:=pv hl;have n1:=Ξ Nj (Yd (t? (cI rec h.aa)));have n2:=gx (t? (cI rec h.aa));have n3:=eu (cI rec h.aa);have n4:=SM rec h.aa;have m1:=Ξ Nj (Yd (t? (oz l.Tables++mz l.e)));have m2:=gx (t? (oz l.Tables++mz l.e));have m3:=eu (oz l.Tables++mz l.e);have m4:=GA hl.t;have m5:=BA hl.s;have m6:=hl.nt;have m7:=hl.ns;rw[Τ]at m3;have hcd:jb l h rec=M (uQ l h rec):=by
  grind[jb,uQ,lst,nV,pX]
 grind[uQ,Of]
theorem DK(hm:(Wa m).2=0) (hl:E' l) (a:h.aa.length<=64):Qw (Wa m).1.n (HW l h m rec) (Wa m).1.To/\(HW l h m rec).length<=65537:=by
 obtain⟨-,h2,h3,-⟩:=cq7 (l:=l) (h:=h) rec hl a;have hr:=Hx hm
 grind[C',HW,FE,CK]
theorem aH0(hm:(Wa m).2=0) (hl:E' l) (d:h.aa.length<=64):(HW l h m rec).length<=65536:=by
 obtain⟨c,h2⟩:=DK (rec:=rec) hm hl d;have hr:=Hx hm;have:∀{a b:Int} {q:List ia},Qw a q b->(a00 q:Int)<=b-a:=by
  intro a b q
  induction q generalizing a with
  |nil=>intro h;simp only[Qw]at h;simp_all
  |cons p q ih=>
   intro h;obtain⟨e1,e2,e3⟩:=h
   grind
 have h4:=this c;have h5:(Wa m).1.To-(Wa m).1.n<=31:=by
  unfold Wa at hm⊢;split at hm
  .rename_i hc;rw[J hc];have:=uf (y:=1900+((m.toNat / 12:Nat):Int)) (m:=((m.toNat % 12:Nat):Int)+1)
   grind
  omega
 omega
theorem nS:(Wa m).2=0↔0<=m/\m<=3599:=by
 grind[Wa]
theorem KU(hl:m? l) (d:E' l) (g:h.aa.length<=64) (hc:c.au.as.length<=1048576) (hab:0<=a/\a<=b/\b<=3600/\b-a<=120) (rec:Int) :
 ie l h c a b rec=M ((p! (b-a).toNat).map λ(j:Nat)=>BE l h c (a+j) rec):=by
 obtain⟨v,o,t⟩:=rN hl (λx hx=>N? (d.s x hx) p5) (h:=h) U hc;obtain⟨n,hn⟩:∃n,(b-a).toNat=n:=⟨_,rfl⟩;unfold ie;rw[J,J,J,f? (n:=b-a) U U,a!,p6 l5];have k:kD 24 (ke.mk 0 0 0) 0 (b-a)=M []:=by
  grind[kD]
 rw[k,a!,o,a!];obtain⟨d1,d2,p,-⟩:=cq7 (l:=l) (h:=h) rec d g;have f:(if v=a38 then(jb l h rec).bind λu=>M (a38,u)else M (a39,([]:List Int)))=M (v,if v=a38 then uQ l h rec else []):=by
  grind
 rw[f,a!];dsimp only;have hlp:ca (xh l h c b rec (if v=a38 then uQ l h rec else [])) (([]:List ke),v,a)=M (.inl ((p! n).map λ(j:Nat)=>BE l h c (a+j) rec)):=by
  refine Nc (λj=>((p! j).map λ(j:Nat)=>BE l h c (a+j) rec,v,a+(j:Int))) n _ (λj hj=>?_) ?_ o0
  .have hm:(Wa (a+j)).2=0:=nS.2 U;have hr:=Hx hm;obtain⟨q,r,q4,q5⟩:=L4 hm;unfold xh;dsimp only;rw[J,UG,a!,p6 (v!.2 hm)];have hw:aa .i64 (a+(j:Int)+1)=a+((j+1:Nat):Int):=by grind[f?]
   have hone:(if v=a38 then(tp (Wa (a+j)).1 (if v=a38 then uQ l h rec else [])).bind λm=>(Mj l h c m rec).bind λe=>M (a38,e.1,e.2)else M (a39,(0:Int),(1:Int)))=M (v,(BE l h c (a+j) rec).ae,(BE l h c (a+j) rec).Code):=by
    unfold BE;rw[p6 (v!.2 hm),o,κ]
    cases v with
    |false=>rfl
    |true=>
     obtain⟨i,H⟩:=t rfl;have hi:h.ai.toNat=i:=by have:=H.sc;omega
     obtain⟨c1,-⟩:=DK (rec:=rec) hm d g;have e1:=av3 H c1 ⟨q,r⟩ (aH0 hm d g) rec;rw[J rfl,J rfl,p6 o0,DE d2 p hr,a!,hi];rw[show Fy (Wa (a+j)).1.To (Wa (a+j)).1.n ((uQ l h rec).filter (C' (Wa (a+j)).1))=HW l h (a+j) rec from rfl,e1];rfl
   grind[BE,Od,uac]
  grind[xh]
 simp_all
theorem WJ:(BE l h c m rec).j=m:=by
 grind[BE]
theorem tV{w D mode L j8:Int}(hD:1<=D/\D<=31) (hm:0<=mode/\mode<=5) (hw:-31000000000000000<=w/\w<=31000000000000000) (a:L*D<=w) (hU:w<=j8*D):L<=(tR w D mode).1/\(tR w D mode).1<=j8:=by
 have e:(tR w D mode).1=aN mode (w / D) (w % D) D:=by
  obtain⟨d,rfl⟩:=V' (show 0<=D by omega);unfold tR;rw[p6 (v!.2 hm),p6,p6]
  grind[wA]
 rw[e];have hr:=FZ mode (w / D) (w % D) D;have hr0:=Int.emod_nonneg w (show D≠0 by omega);have hdm:=Int.mul_ediv_add_emod w D;constructor
 .have:L<=w / D:=(Int.le_ediv_iff_mul_le U).2 a;omega
 .have hq:w / D<=j8:=by
   have:=Int.ediv_le_ediv (show 0<D by omega) hU
   grind[Int.mul_ediv_cancel]
  rcases Int.lt_or_eq_of_le hq with h|h
  .omega
  .have h0:w % D=0:=by
    grind
   unfold aN;rw[p6 (by unfold l6;omega)];omega
theorem MJ{v:Int->Int}{L j8:Int}:∀{a b:Int}{l:List ia},Qw a l b->(∀p∈l,L<=v p.n/\v p.n<=j8)->L*Lr l<=Mw v l/\Mw v l<=j8*Lr l
 |a,b,[],h,hv=>by simp[Mw,Lr]
 |a,b,p::l,h,hv=>by
  obtain⟨h1,h2,d⟩:=h;have e:=MJ d λq hq=>hv q o4;have c:=hv p o0;have m1:=rac c.1 (show 0<=p.To-p.n by omega);have m2:=rac c.2 (show 0<=p.To-p.n by omega);simp only[Mw,Lr,List.map_cons,List.sum_cons]at e⊢
  grind
theorem bs7{l:List ia}(h:(yE v r l).2=0):(∀p∈l,(v p.n).2=0)/\(yE v r l).1=max (tR (Mw (λd=>(v d).1.N) l) (Lr l) r).1 0:=by
 unfold yE at h⊢;split at h
 .grind[Qa]
 .rename_i hf;refine⟨λp a=>?_,rfl⟩;obtain⟨k,hk,rfl⟩:=H' a
  simp_all[db]
theorem aR9{l:List ia}(h:(yE v r l).2≠0):(yE v r l).1=0:=by
 unfold yE at h⊢
 grind
theorem av0(a:(BE l h c m rec).Code=0):(Wa m).2=0/\(Zc l h c).getD a39=a38/\BE l h c m rec=⟨m,(yE (nc l h.ai.toNat h c.u rec) c.aw (HW l h m rec)).1,(yE (nc l h.ai.toNat h c.u rec) c.aw (HW l h m rec)).2⟩:=by
 unfold BE at a⊢
 grind
end Go.Proofs.Dev
namespace Go.Tm
variable {l:List Int}{k i j n:Nat}
def Nw(l:List Int) (k:Nat):Int:=l.getD k 0
def Ρ(l:List Int) (i j:Nat):List Int:=(l.set i (Nw l j)).set j (Nw l i)
def Hp(l:List Int) (n:Nat):Prop:=∀k,0<k->k<n->Nw l ((k-1) / 2)<=Nw l k
def HpU(l:List Int) (j:Nat):Prop:=(∀k,0<k->k<a00 l->k≠j->Nw l ((k-1) / 2)<=Nw l k)/\(∀k,0<j->0<k->k<a00 l->(k-1) / 2=j->Nw l ((j-1) / 2)<=Nw l k)
def HpD(l:List Int) (n i:Nat):Prop:=(∀k,0<k->k<n->(k-1) / 2≠i->Nw l ((k-1) / 2)<=Nw l k)/\(∀k,0<i->0<k->k<n->(k-1) / 2=i->Nw l ((i-1) / 2)<=Nw l k)
theorem Ln(h:k<a00 l):Nw l k=l[k]:=by grind[Nw]
theorem BJ:(Ρ l i j).length=a00 l:=by simp[Ρ]
theorem ir(hi:i<a00 l) (hj:j<a00 l):Nw (Ρ l i j) k=if k=j then Nw l i else if k=i then Nw l j else Nw l k:=by
 grind[Ρ,Nw]
theorem LF(hi:i<a00 l) (hj:j<a00 l):(Ρ l i j).Perm l:=by
 grind[Ρ,Ln]
theorem ab4(h:HpU l j) (hj:j=0\/Nw l ((j-1) / 2)<=Nw l j):Hp l l.length:=by
 intro k a b;by_cases hk:k=j
 .grind
 .exact h.1 k a b hk
theorem bv6(h:HpU l j) (hj:0<j) (hl:j<a00 l) (hlt:Nw l j<Nw l ((j-1) / 2)):HpU (Ρ l ((j-1) / 2) j) ((j-1) / 2):=by
 have c:(j-1) / 2<a00 l:=U
 refine⟨λk b a h2=>?_,λk b a h2 h3=>?_⟩
 .rw[BJ]at a;rw[ir c hl,ir c hl];by_cases hk:k=j
  .omega
  .rw[p6 hk,p6 h2];by_cases d:(k-1) / 2=j
   .rw[J d];exact h.2 k hj b a d
   .rw[p6 d];by_cases f:(k-1) / 2=(j-1) / 2
    .rw[J f];have:=h.1 k b a hk
     grind
    .rw[p6 f];exact h.1 k b a hk
 .rw[BJ]at h2;rw[ir c hl,ir c hl];have e:Nw l (((j-1) / 2-1) / 2)<=Nw l ((j-1) / 2):=h.1 _ b c U;rw[p6,p6];by_cases hk:k=j
  .omega
  .rw[p6 hk,p6];have:=h.1 k a h2 hk
   grind
theorem bf5{x:Int}(h:Hp l l.length):HpU (l++[x]) l.length:=by
 refine⟨λk a b h2=>?_,λk a b h2 h3=>?_⟩
 .have hk:k<a00 l:=o4
  have e:∀q,q<a00 l->Nw (l++[x]) q=Nw l q:=λq hq=>by grind[Ln]
  rw[e _ U,e _ hk];exact h k a hk
 grind
def CmH(l:List Int) (n i j:Nat):Prop:=0<j/\j<n/\(j-1) / 2=i/\∀k,0<k->k<n->(k-1) / 2=i->Nw l j<=Nw l k
theorem cq5(a:2*i+1<n) (h:2*i+2<n->Nw l (2*i+1)<=Nw l (2*i+2)):CmH l n i (2*i+1):=by
 refine⟨U,a,U,λk h0 h2 h3=>?_⟩
 grind
theorem cC4(a:2*i+2<n) (h:Nw l (2*i+2)<Nw l (2*i+1)):CmH l n i (2*i+2):=by
 refine⟨U,a,U,λk h0 h2 h3=>?_⟩
 grind
theorem N7(h:HpD l n i) (hn:n<=2*i+1):Hp l n:=λk a b=>h.1 k a b U
theorem SN(h:HpD l n i) (hc:CmH l n i j) (hle:Nw l i<=Nw l j):Hp l n:=by
 intro k a b;by_cases hk:(k-1) / 2=i
 .have:=hc.2.2.2 k a b hk
  grind
 .exact h.1 k a b hk
theorem fT(h:HpD l n i) (hn:n<=a00 l) (hc:CmH l n i j) (hlt:Nw l j<Nw l i):HpD (Ρ l i j) n j:=by
 obtain⟨c0,c1,c2,c3⟩:=hc;have hi:i<a00 l:=U
 have hj:j<a00 l:=U
 refine⟨λk b c h2=>?_,λk b c h2 h3=>?_⟩
 .rw[ir hi hj,ir hi hj,p6 h2];by_cases hk:k=j
  .omega
  .rw[p6 hk];by_cases a:k=i
   .subst a;rw[p6,J rfl];exact h.2 j b c0 c1 c2
   .rw[p6 a];by_cases d:(k-1) / 2=i
    .simp_all
    .rw[p6 d];exact h.1 k b c d
 .rw[ir hi hj,ir hi hj,p6,J c2,p6,p6];have:=h.1 k c h2 U
  simp_all
theorem bz0(h:Hp l l.length) (hl:l.length=n+1):HpD (Ρ l 0 n) n 0:=by
 refine⟨λk a h1 h2=>?_,λk a=>absurd a U⟩;rw[ir U U,ir U U,p6,p6 h2,p6,p6];exact h k a U
theorem bm4(h:Hp l n):∀k,k<n->Nw l 0<=Nw l k:=by
 intro k
 induction k using Nat.strongRecOn with
 |ind k a=>
  intro hk;by_cases h0:k=0
  .simp_all
  .have h1:=a ((k-1) / 2) U U;have h2:=h k U hk;omega
theorem aL4(h:Hp l n) (hn:n<=a00 l):Hp (l.take n) (l.take n).length:=by
 intro k a b;rw[Aac]at b;have e:∀q,q<n->Nw (l.take n) q=Nw l q:=λq hq=>by
  grind[Ln]
 rw[e _ U,e _ U];exact h k a U
end Go.Tm
namespace Go.Proofs.Dev
open Go Go.Tm
variable {d i j k e:Nat}{x:Int}
structure GOk (g:List (List Int)):Prop where
 len:g.length<=1048576
 inr:∀l∈g,∀e∈l,0<=e/\e<a00 g
 nd:∀l∈g,l.Nodup
theorem AK:∀{n:Nat}{l:List Int},l.Nodup->(∀x∈l,0<=x/\x<(n:Int))->l.length<=n
 |0,l,_,h=>by
  cases l with
  |nil=>simp
  |cons x l=>grind[yad]
 |n+1,l,hd,h=>by
  by_cases hm:(n:Int)∈l
  .have h1:=AK (n:=n) (l:=l.erase n) (hd.erase _) (λx hx=>by
    grind)
   simp_all
  .have:=AK (n:=n) (l:=l) hd (λx hx=>by
    grind)
   omega
def Oj(g:List (List Int)) (i d:Nat):List Int:=((p! i).filter λe=>(g.getD e []).contains (d:Int)).map λ(e:Nat)=>(e:Int)
def fx(g:List (List Int)) (i j d:Nat):List Int:=Oj g i d++if((g.getD i []).take j).contains (d:Int)then [(i:Int)]else []
theorem K7{g:List (List Int)}:Oj g 0 d=[]:=rfl
theorem L7{g:List (List Int)}:fx g i 0 d=Oj g i d:=by simp[fx]
theorem J7{g:List (List Int)}:Oj g (i+1) d=fx g i (g.getD i []).length d:=by
 grind[Oj,fx,uac]
theorem rR{g:List (List Int)}(hj:j<(g.getD i []).length) (hnd:(g.getD i []).Nodup):fx g i (j+1) d=if(g.getD i [])[j]=(d:Int)then fx g i j d++[(i:Int)]else fx g i j d:=by
 unfold fx;rw[N!,n! hj,Bab];by_cases h:(g.getD i [])[j]=(d:Int)
 .rw[J h];have h1:((g.getD i []).take j++[(g.getD i [])[j]]).contains (d:Int)=a38:=Ν.2 (Z?.2 (.inr l5));have h2:((g.getD i []).take j).contains (d:Int)=a39:=by
   rw[←Xac,Ν]
   grind[H',Pab]
  simp_all
 grind
theorem PN{g:List (List Int)}:(Oj g i d).length<=i:=by
 grind[Oj]
theorem ar7{g:List (List Int)}:(fx g i j d).length<=i+1:=by
 grind[fx,PN]
def EZ(g:List (List Int)) (i:Nat):List Int:=((p! i).filter λe=>(g.getD e []).isEmpty).map λ(e:Nat)=>(e:Int)
theorem LW{g:List (List Int)}:EZ g (i+1)=if(g.getD i [])=[]then EZ g i++[(i:Int)]else EZ g i:=by
 grind[EZ,uac]
theorem aF4{g:List (List Int)}:(EZ g i).length<=i:=by
 grind[EZ]
def MI(g:List (List Int)) (i:Nat):List Int:=(p! g.length).map λe=>if e<i then((g.getD e []).length:Int)else 0
theorem O8{g:List (List Int)}:MI g 0=k? g.length 0:=by
 unfold MI;apply bac<;>simp
theorem N8{g:List (List Int)}(hi:i<a00 g):(MI g i).set i ((g.getD i []).length:Int)=MI g (i+1):=by
 unfold MI;apply bac
 all_goals grind
def dM(g:List (List Int)) (out:List Int) (e:Nat):Int:=(((g.getD e []).filter λd=>!out.contains d).length:Int)
def ZV(g:List (List Int)) (out:List Int):List Int:=(p! g.length).map λe=>dM g out e
def Y4(g:List (List Int)) (out:List Int):List Int:=((p! g.length).filter (CG g out)).map λ(d:Nat)=>(d:Int)
structure J2 (g:List (List Int)) (out l:List Int):Prop where
 nd:out.Nodup
 inr:∀x∈out,0<=x/\x<(a00 g:Int)
 clo:∀d:Nat,(d:Int)∈out->∀e∈g.getD d [],e∈out
 perm:l.Perm (Y4 g out)
 ord:Xx g (a00 g-out.length) out=Fx g
variable {g:List (List Int)}{out l:List Int}
theorem XM:x∈Y4 g out↔∃d:Nat,x=d/\d<a00 g/\(d:Int)∉out/\∀e∈g.getD d [],e∈out:=by
 unfold Y4;rw[V!];constructor
 .rintro⟨d,hd,rfl⟩;rw[tac,Eac]at hd;obtain⟨a,h2⟩:=hd;unfold CG at h2
  grind
 .rintro⟨d,rfl,a,h2,h3⟩;refine⟨d,?_,rfl⟩
  simp_all[CG]
theorem ag9:(Y4 g out).Nodup:=by
 grind[Y4,Pae,Aad]
theorem cu9(h:l.Perm (EZ g g.length)):J2 g [] l:=by
 refine⟨List.nodup_nil,λx h=>(lae h).elim,λd h=>(lae h).elim,?_,by rw[List.length_nil,Nat.sub_zero];rfl⟩;have:EZ g g.length=Y4 g []:=by
  unfold EZ Y4;congr 1;refine dae λd _=>?_;unfold CG;cases hq:g.getD d []<;>simp
 simp_all
theorem bl3:MI g g.length=ZV g []:=by
 unfold MI ZV;refine oac λe he=>?_;rw[J (Eac.1 he)]
 grind[dM,List.filter_eq_self]
theorem bl0(h:J2 g out []):Fx g=if out.length<a00 g then([],9)else(out,0):=by
 rw[←h.ord];have hl:out.length<=a00 g:=AK h.nd h.inr;have he:Y4 g out=[]:=List.Perm.eq_nil (h.perm.symm);split
 .rename_i hlt;obtain⟨k,hk⟩:∃k,a00 g-out.length=k+1:=⟨a00 g-out.length-1,U⟩;rw[hk];unfold Xx;have hf:(p! g.length).find? (CG g out)=s5:=by
   rw[List.find?_eq_none];intro d hd hr;have:(d:Int)∈Y4 g out:=by
    unfold Y4
    grind
   simp_all
  rw[hf]
 .rw[show g.length-out.length=0 by omega];rfl
def nE(g:List (List Int)) (out:List Int) (d k:Nat):List Int:=(p! g.length).map λe=>dM g out e-if((Oj g g.length d).take k).contains (e:Int)then 1 else 0
def XI(g:List (List Int)) (out:List Int) (d k:Nat):List Int:=((Oj g g.length d).take k).filter λe=>dM g out e.toNat==1
theorem lF:x∈Oj g g.length d↔∃e:Nat,x=e/\e<a00 g/\(d:Int)∈g.getD e []:=by
 unfold Oj
 grind
theorem O2:(Oj g g.length d).Nodup:=by
 grind[Oj,Pae,Aad]
theorem bl4:nE g out d 0=ZV g out:=by
 grind[nE,ZV]
theorem ad4(hnd:l.Nodup) (hk:k<a00 l):(l.take k).contains l[k]=a39:=by
 rw[←Xac,Ν]
 grind[H',Pab]
theorem ao0(hk:k<(Oj g g.length d).length) (he:(Oj g g.length d)[k]=(e:Int)) (hl:e<a00 g):(nE g out d k)[e]?=M (dM g out e):=by
 grind[nE,ad4,O2]
theorem HR(hk:k<(Oj g g.length d).length) (he:(Oj g g.length d)[k]=(e:Int)):(nE g out d k).set e (dM g out e-1)=nE g out d (k+1):=by
 unfold nE;apply bac
 .simp
 .intro q h1 h2;rw[List.getElem_set];simp only[Zac,Kae];rw[N!,n! hk,Bab,he]
  grind
theorem bh3:XI g out d 0=[]:=rfl
theorem WR(hk:k<(Oj g g.length d).length) (he:(Oj g g.length d)[k]=(e:Int)):XI g out d (k+1)=if dM g out e=1 then XI g out d k++[(e:Int)]else XI g out d k:=by
 unfold XI;rw[N!,n! hk,Bab,he,δ]
 grind
theorem al2:(XI g out d k).length<=a00 g:=by
 grind[XI,PN]
theorem bm6(h:e<a00 g):g.getD e []∈g:=by
 simp_all
theorem GN(b:GOk g) (he:e<a00 g) (hd:(d:Int)∉out):dM g (out++[(d:Int)]) e=dM g out e-if(Oj g g.length d).contains (e:Int)then 1 else 0:=by
 unfold dM;have hn:=b.nd _ (bm6 he);have hc:(Oj g g.length d).contains (e:Int)=(g.getD e []).contains (d:Int):=by
  rw[Sac,Ν,Ν,lF]
  grind
 rw[hc];generalize g.getD e []=l at hn
 induction l with
 |nil=>rfl
 |cons a l ih=>
  grind
theorem as8(h:∀q∈g.getD e [],q∈out):dM g out e=0:=by
 grind[dM,Mac]
theorem r7(h:dM g out e=0):∀q∈g.getD e [],q∈out:=by
 grind[dM,Δ,Mac]
theorem bk9(A:GOk g) {l':List Int}(h:J2 g out l) (C:(x::l').Perm l) (hmin:∀y∈l',x<=y) :
 ∃d:Nat,x=d/\d<a00 g/\nE g out d (Oj g g.length d).length=ZV g (out++[x])/\out.length<a00 g/\∀n,n.Perm (l'++XI g out d (Oj g g.length d).length)->J2 g (out++[x]) n:=by
 have s:=C.trans h.perm;obtain⟨d,rfl,u,m,hde⟩:=XM.1 (s.mem_iff.1 (yad ..));have i:(out++[(d:Int)]).Nodup:=by
  rw[Rae];refine⟨h.nd,o0,λa ha b hb=>?_⟩
  grind
 have f:∀x∈out++[(d:Int)],0<=x/\x<(a00 g:Int):=λx hx=>by
  rcases Z?.1 hx with c|c
  .exact h.inr x c
  simp_all
 have r:out.length<a00 g:=by
  have:=AK i f
  grind
 have w:(d:Int)∉l'/\l'.Nodup:=List.nodup_cons.1 ((s.nodup_iff).2 ag9);refine⟨d,rfl,u,?_,r,λn p=>⟨i,f,?_,?_,?_⟩⟩
 .simp_all[nE,ZV,GN]
 .intro q hq e he;rcases Z?.1 hq with c|c
  .exact xae _ (h.clo q c e he)
  grind
 .refine p.trans ?_;have v:(XI g out d (Oj g g.length d).length).Nodup:=by
   grind[XI,O2]
  have j:∀y,y∈XI g out d (Oj g g.length d).length↔∃e:Nat,y=e/\e<a00 g/\(d:Int)∈g.getD e []/\dM g out e=1:=by
   intro y;unfold XI;rw[ν,tac,lF]
   grind
  have D:∀y,y∈l'↔y∈Y4 g out/\y≠d:=by
   grind
  rw[List.perm_ext_iff_of_nodup ?_ ag9]
  .intro y;rw[Z?,D,j,XM,XM];constructor
   .rintro(⟨⟨e,rfl,c,h2,o⟩,B⟩|⟨e,rfl,c,h2,o⟩)
    .grind
    .refine⟨e,rfl,c,λhm=>?_,?_⟩
     .rcases Z?.1 hm with t|t
      .exact m (h.clo e t d h2)
      grind
     .refine r7 ?_;rw[GN A c m,J (Ν.2 (lF.2 ⟨e,rfl,c,h2⟩)),o];rfl
   .rintro⟨e,rfl,c,h2,o⟩;have B:(e:Int)∉out:=λhm=>h2 (xae _ hm);have t:(e:Int)≠d:=λhm=>h2 (List.mem_append_right _ (Tab.2 hm));by_cases z:(d:Int)∈g.getD e []
    .refine .inr ⟨e,rfl,c,z,?_⟩;have:=as8 o;rw[GN A c m,J (Ν.2 (lF.2 ⟨e,rfl,c,z⟩))]at this;omega
    grind
  .rw[Rae];refine⟨w.2,v,λa ha b hb e=>?_⟩;subst e;obtain⟨e,rfl,c,h2,o⟩:=(j a).1 hb
   grind[XM]
 .rw[←h.ord];obtain⟨k,hk⟩:∃k,a00 g-out.length=k+1:=⟨a00 g-out.length-1,U⟩;rw[hk,Τ,yab,show g.length-(a00 out+1)=k by omega];have hf:(p! g.length).find? (CG g out)=M d:=by
   have hr:∀e:Nat,e<a00 g->(CG g out e=a38↔(e:Int)∈Y4 g out):=by
    intro e he;unfold Y4
    grind
   rw[List.find?_range_eq_some]
   grind
  rw[Xx,hf]
end Go.Proofs.Dev
set_option maxRecDepth 100000
namespace Go.Proofs.Dev
open Go Go.Tm
noncomputable def Xj(j:List Int):(List Bool×List Int×Int)->Option (Ex (List Bool×List Int×Int) (List Bool×List Int) Unit):=λ(c,f,a)=>
 if a<(a00 j:Int)then
  b? (
   (c! j a).bind λb=>
   (c! c b).bind λg=>
   if g=a39 then
    (put c b a38).bind λh=>
    (app 8 f ([b])).bind λi=>
    M (h,i)
   else
   M (c,f)) λ(d,e)=>
  M (i! (d,e,(aa .i64 (a+1))))
 else
 M (i? (c,f))
noncomputable def zh(t0:(List (List Int))):(List Bool×List Int)->Option (Ex (List Bool×List Int) (List Bool) Unit):=λ(s2,c)=>
 if 0<(a00 c:Int)then
  (c! c 0).bind λd=>
  (KG c 1).bind λe=>
  (c! t0 d).bind λf=>
  (ca (Xj f) (s2,e,0)).bind λy=>match y with
  |.inr _=>s5
  |.inl (a,b)=>
  M (i! (a,b))
 else
 M (i? s2)
noncomputable def Yj(c:List Bool):(List Int×Int)->Option (Ex (List Int×Int) (List Int) Unit):=λ(b,a)=>
 if a<(a00 c:Int)then
  b? (
   (c! c a).bind λe=>
   if e=a38 then
    (app 8 b ([a])).bind λf=>
    M f
   else
   M b) λd=>
  M (i! (d,(aa .i64 (a+1))))
 else
 M (i? b)
noncomputable def Sx(t0:(List (List Int))) (t1:Int):Option (List Int):=
 (kD 1 a39 (a00 t0:Int) (a00 t0:Int)).bind λc=>
 (ca (zh t0) (c,[t1])).bind λy=>match y with
 |.inr _=>s5
 |.inl a=>
 (ca (Yj a) (([]:List Int),0)).bind λy=>match y with
 |.inr _=>s5
 |.inl b=>
 M b
def C!(p:List Bool×List Int) (e:Int):List Bool×List Int:=if p.1[e.toNat]?=M a38 then p else(p.1.set e.toNat a38,p.2++[e])
def Sn(s:List Bool) (b:Int):Prop:=s[b.toNat]?=M a38
instance (s:List Bool) (b:Int):Decidable (Sn s b):=by unfold Sn;infer_instance
def cF(s:List Bool):Nat:=s.count a39
theorem au4:∀{s:List Bool}{i:Nat},s[i]?=M a39->cF (s.set i a38)+1=cF s
 |[],i,h=>by simp at h
 |b::s,0,h=>by simp at h;subst h;simp[cF]
 |b::s,i+1,h=>by
  have:=au4 (s:=s) (i:=i) (by simpa using h);unfold cF at this⊢;simp only[List.set_cons_succ,List.count_cons];omega
def cq8(s:List Bool):cF s<=a00 s:=List.count_le_length
structure Ok (n:Nat) (p:List Bool×List Int):Prop where
 len:p.1.length=n
 q:∀x∈p.2,0<=x/\x<n
 m:p.2.length+cF p.1<=n+1
def LX{n:Nat}{p:List Bool×List Int}{e:Int}(h:Ok n p) (f:0<=e) (g:e<n) :
 Ok n (C! p e)/\(C! p e).2.length+cF (C! p e).1=a00 p.2+cF p.1/\(∀b,0<=b->(Sn (C! p e).1 b↔Sn p.1 b\/b=e))/\(∀x,x∈(C! p e).2↔x∈p.2\/(x=e/\¬Sn p.1 e)):=by
 unfold C!;split
 .rename_i c;refine⟨h,rfl,λb hb=>⟨.inl,λh=>?_⟩,λx=>⟨.inl,λh=>?_⟩⟩
  .rcases h with h|rfl
   .exact h
   .exact c
  .rcases h with h|⟨rfl,h⟩
   .exact h
   .exact(h c).elim
 .rename_i c;have d:e.toNat<a00 p.1:=by rw[h.len];omega
  have hf:p.1[e.toNat]?=M a39:=by
   rw[n! d]at c⊢
   cases hb:p.1[e.toNat]with
   |true=>rw[hb]at c;exact(c rfl).elim
   |false=>rfl
  have hc:=au4 hf;have hm:=h.m;refine⟨⟨by simp[h.len],λx hx=>?_,?_⟩,?_,λb hb=>?_,λx=>?_⟩
  .rcases Z?.1 hx with hx|hx
   .exact h.q x hx
   .rw[Tab]at hx;subst hx;exact⟨f,g⟩
  .simp only[Τ,yab];omega
  .simp only[Τ,yab];omega
  .unfold Sn;rw[List.getElem?_set];by_cases a:e.toNat=b.toNat
   .rw[J a,J d];exact⟨λ_=>.inr U,λ_=>rfl⟩
   .rw[p6 a];exact⟨.inl,λh=>h.elim id λh=>(a (by rw[h])).elim⟩
  .rw[Z?,Tab];exact⟨λh=>h.imp id λh=>⟨h,c⟩,λh=>h.imp id λh=>h.1⟩
theorem CS{n:Nat}:∀{l:List Int}{p:List Bool×List Int},Ok n p->(∀e∈l,0<=e/\e<n)->
 Ok n (l.foldl C! p)/\(l.foldl C! p).2.length+cF (l.foldl C! p).1=a00 p.2+cF p.1/\(∀b,0<=b->(Sn (l.foldl C! p).1 b↔Sn p.1 b\/b∈l))/\(∀x,x∈(l.foldl C! p).2↔x∈p.2\/(x∈l/\¬Sn p.1 x))
 |[],p,h,_=>by simp[h]
 |e::l,p,h,hl=>by
  obtain⟨j,k⟩:=hl e o0;obtain⟨a1,a2,a3,a4⟩:=LX h j k;obtain⟨f,b2,g,i⟩:=CS a1 (λx hx=>hl x (by simp[hx])) (l:=l);simp only[Γ];refine⟨f,U,λb hb=>?_,λx=>?_⟩
  .rw[g b hb,a3 b hb,Z'];constructor
   .rintro((h|h)|h)
    .exact .inl h
    .exact .inr (.inl h)
    .exact .inr (.inr h)
   .rintro(h|h|h)
    .exact .inl (.inl h)
    .exact .inl (.inr h)
    .exact .inr h
  .rw[i x,a4 x,Z'];constructor
   .rintro((h|⟨rfl,h⟩)|⟨h,a⟩)
    .exact .inl h
    .exact .inr ⟨.inl rfl,h⟩
    .exact .inr ⟨.inr h,λd=>a ((a3 x (hl x (by simp[h])).1).2 (.inl d))⟩
   .rintro(h|⟨rfl|h,a⟩)
    .exact .inl (.inl h)
    .exact .inl (.inr ⟨rfl,a⟩)
    .by_cases c:x=e
     .subst c;exact .inl (.inr ⟨rfl,a⟩)
     .exact .inr ⟨h,λd=>((a3 x (hl x (by simp[h])).1).1 d).elim a c⟩
def y6{i:Int}(h0:0<=i) (h1:i<9223372036854775807):aa .i64 (i+1)=i+1:=KA ⟨U,U⟩
theorem aZ9{n:Nat}(hn:n<=1048576) {l:List Int}(hl:l.length<=1048576) (c:∀e∈l,0<=e/\e<n):∀(k:Nat) {p:List Bool×List Int}{i:Nat},a00 l-i=k->Ok n p->
 ca (Xj l) (p.1,p.2,(i:Int))=M (.inl ((l.drop i).foldl C! p))
 |0,p,i,hk,d=>by
  rw[Lac U];refine Qb ?_;unfold Xj;simp only;rw[p6];rfl
 |k+1,p,i,hk,d=>by
  have hi:i<a00 l:=U
  obtain⟨f,g⟩:=c l[i] (y! hi);have a:l[i].toNat<a00 p.1:=by rw[d.len];omega
  rw[lab hi,Γ];have b:Xj l (p.1,p.2,(i:Int))=M (.go ((C! p l[i]).1,(C! p l[i]).2,((i+1:Nat):Int))):=by
   unfold Xj;simp only;rw[J];have e1:c! l (i:Int)=M l[i]:=by simp[c!,hi]
   have e2:c! p.1 l[i]=M p.1[l[i].toNat]:=by simp[c!,f,a]
   have e3:aa .i64 ((i:Int)+1)=((i+1:Nat):Int):=by rw[y6 U U];omega
   rw[e1,a!,e2,a!,e3];unfold C!;rw[n! a]
   cases hb:p.1[l[i].toNat]with
   |true=>simp
   |false=>
    have e4:put p.1 l[i] a38=M (p.1.set l[i].toNat a38):=by simp[put,f,a]
    have e5:app 8 p.2 [l[i]]=M (p.2++[l[i]]):=by
     have hm:=d.m;unfold app;rw[if_pos];simp only[yab];omega
    rw[J rfl,e4,a!,e5];simp
  rw[Ke b];exact aZ9 hn hl c k (i:=i+1) U (LX d f g).1
def bt6(g:List (List Int)) (a b:Int):Prop:=b=a\/H? g a b
structure Bfs (g:List (List Int)) (a:Int) (p:List Bool×List Int):Prop where
 ok:Ok g.length p
 sound:∀b,0<=b->Sn p.1 b->H? g a b
 qs:∀x∈p.2,bt6 g a x
 done:∀b,0<=b->(b=a\/Sn p.1 b)->b∈p.2\/∀l,g[b.toNat]?=M l->∀c∈l,Sn p.1 c
def cs6{g:List (List Int)}{a:Int}(hn:g.length<=1048576) (y:∀l∈g,a00 l<=1048576/\∀e∈l,0<=e/\e<a00 g):∀(k:Nat) {p:List Bool×List Int},a00 p.2+cF p.1=k->Bfs g a p->
 ∃s,ca (zh g) p=M (.inl s)/\Bfs g a (s,[]):=by
 intro k
 induction k with
 |zero=>
  intro p hk f;obtain⟨s,q⟩:=p;have:q=[]:=Δ (by dsimp only at hk;omega);subst this;exact⟨s,Qb (by simp[zh]),f⟩
 |succ k A=>
  intro p hk f;obtain⟨s,q⟩:=p
  cases q with
  |nil=>exact⟨s,Qb (by simp[zh]),f⟩
  |cons d q=>
   obtain⟨z,d1⟩:=f.ok.q d o0;have hd:d.toNat<a00 g:=U
   obtain⟨gl,ge⟩:=y g[d.toNat] (y! hd);have o:Ok g.length (s,q):=⟨f.ok.len,λx hx=>f.ok.q x (by simp[hx]),by have:=f.ok.m;simp only[G!]at this⊢;omega⟩;obtain⟨B,C,t,w⟩:=CS o ge (l:=g[d.toNat]);have j:zh g (s,d::q)=M (.go (g[d.toNat].foldl C! (s,q))):=by
    unfold zh;simp only;rw[J o0];have e1:c! (d::q) 0=M d:=rfl;have e2:KG (d::q) 1=M q:=by simp[KG]
    have e3:c! g d=M g[d.toNat]:=by simp[c!,z,hd]
    have e4:=aZ9 hn gl ge _ (p:=(s,q)) (i:=0) rfl o;simp only[List.drop_zero,Iad]at e4;rw[e1,a!,e2,a!,e3,a!,e4];rfl
   rw[Ke j];have v:q.length+cF s=k:=by simp only[G!]at hk;omega
   refine A (by rw[C];exact v) ⟨B,λb hb r=>?_,λx hx=>?_,λb hb u=>?_⟩
   .rcases(t b hb).1 r with h|h
    .exact f.sound b hb h
    .rcases f.qs d o0 with rfl|hr
     .exact .one (n! hd) h
     .exact .step hr (n! hd) h
   .rcases(w x).1 hx with h|⟨h,-⟩
    .exact f.qs x (by simp[h])
    .right;rcases f.qs d o0 with rfl|hr
     .exact .one (n! hd) h
     .exact .step hr (n! hd) h
   .have up:∀c,0<=c->Sn s c->Sn (g[d.toNat].foldl C! (s,q)).1 c:=λc hc h=>(t c hc).2 (.inl h);by_cases n:b=d
    .subst n;right;intro l hl c hc;rw[n! hd]at hl;injection hl with hl;subst hl;exact(t c (ge c hc).1).2 (.inr hc)
    .have key:(b=a\/Sn s b)\/(b∈g[d.toNat]/\¬Sn s b):=by
      rcases u with h|h
      .exact .inl (.inl h)
      .rcases(t b hb).1 h with h|h
       .exact .inl (.inr h)
       .by_cases r:Sn s b
        .exact .inl (.inr r)
        .exact .inr ⟨h,r⟩
     rcases key with h|h
     .rcases f.done b hb h with h|h
      .rcases Z'.1 h with h|h
       .exact(n h).elim
       .exact .inl ((w b).2 (.inl h))
      .right;intro l hl c hc;have hm:l∈g:=Gab hl;exact up c ((y l hm).2 c hc).1 (h l hl c hc)
     .exact .inl ((w b).2 (.inr h))
theorem aZ8{s:List Bool}(e:s.length<=1048576):∀(k:Nat) {i:Nat},a00 s-i=k->i<=a00 s->
 ca (Yj s) (((p! i).map λ(k:Nat)=>(k:Int)).filter (λb=>s6 (Sn s b)),(i:Int))=M (.inl (((p! s.length).map λ(k:Nat)=>(k:Int)).filter λb=>s6 (Sn s b)))
 |0,i,hk,hi=>by
  have:i=a00 s:=U
  subst this;refine Qb ?_;unfold Yj;simp
 |k+1,i,hk,hi=>by
  have a:i<a00 s:=U
  have hlen:(((p! i).map λ(k:Nat)=>(k:Int)).filter (λb=>s6 (Sn s b))).length<=i:=N? (Ξ _ _) o0;have d:Yj s (((p! i).map λ(k:Nat)=>(k:Int)).filter (λb=>s6 (Sn s b)),(i:Int))=M (.go (((p! (i+1)).map λ(k:Nat)=>(k:Int)).filter (λb=>s6 (Sn s b)),((i+1:Nat):Int))):=by
   unfold Yj;simp only;rw[J];have e1:c! s (i:Int)=M s[i]:=by simp[c!,a]
   have e3:aa .i64 ((i:Int)+1)=((i+1:Nat):Int):=by rw[y6 U U];omega
   rw[e1,a!,e3,uac,List.map_append,δ]
   cases hb:s[i]with
   |true=>
    have c:Sn s ((i:Nat):Int):=by unfold Sn;simp[a,hb]
    have e5:app 8 (((p! i).map λ(k:Nat)=>(k:Int)).filter (λb=>s6 (Sn s b))) [(i:Int)]=M (((p! i).map λ(k:Nat)=>(k:Int)).filter (λb=>s6 (Sn s b))++[(i:Int)]):=by
     unfold app;rw[if_pos];simp only[yab];omega
    rw[J rfl,e5];simp[c]
   |false=>
    have c:¬Sn s ((i:Nat):Int):=by unfold Sn;simp[a,hb]
    rw[p6 o0];simp[c]
  rw[Ke d];exact aZ8 e k (i:=i+1) U U
def K9{t0:List (List Int)}{t1:Int}{r:List Int}(h:cm t0 t1=M r):Sx t0 t1=M r:=by
 unfold cm at h;split at h
 .rename_i hc;obtain⟨hn,l,m,o⟩:=hc;obtain rfl:=J' h;unfold Sx;have e1:kD 1 a39 (a00 t0:Int) (a00 t0:Int)=M (k? t0.length a39):=by
   unfold kD;rw[J ⟨U,U,U,by simp;omega⟩];simp
  have hb:Bfs t0 t1 (k? t0.length a39,[t1]):=by
   have f:∀b,¬Sn (k? t0.length a39) b:=λb hb=>by
    unfold Sn at hb;rw[List.getElem?_replicate]at hb;split at hb<;>simp at hb
   refine⟨⟨o0,λx hx=>?_,?_⟩,λb _ g=>(f b g).elim,λx hx=>?_,λb _ g=>?_⟩
   .rw[Tab]at hx;subst hx;exact⟨m,o⟩
   .have:=cq8 (k? t0.length a39);simp only[List.length_replicate,yab]at this⊢;omega
   .rw[Tab]at hx;exact .inl hx
   .rcases g with rfl|g
    .exact .inl o0
    .exact(f b g).elim
  obtain⟨s,e2,hb⟩:=cs6 hn l _ rfl hb;have e:s.length=a00 t0:=hb.ok.len;have e3:=aZ8 (s:=s) U _ (i:=0) rfl U;simp only[List.range_zero,List.map_nil,List.filter_nil,Iad]at e3;rw[e1,a!,e2,a!];simp only;rw[e3,a!];simp only;rw[e];unfold YO;congr 1;apply dae;intro b j;obtain⟨k,-,rfl⟩:=V!.1 j;have c:∀b,H? t0 t1 b->0<=b/\Sn s b:=by
   intro b hr
   induction hr with
   |one h d=>
    have hm:=Gab h;refine⟨((l _ hm).2 _ d).1,?_⟩;rcases hb.done t1 m (.inl rfl)with a|a
    .cases a
    .exact a _ h _ d
   |step _ hl hc n=>
    have hm:=Gab hl;refine⟨((l _ hm).2 _ hc).1,?_⟩;rcases hb.done _ n.1 (.inr n.2)with a|a
    .cases a
    .exact a _ hl _ hc
  exact decide_eq_decide.2 ⟨λh=>hb.sound _ U h,λh=>(c _ h).2⟩
 .cases h
end Go.Proofs.Dev
set_option maxRecDepth 10000
namespace Go.Proofs.Dev
open Go Go.Tm
def EX:kv:=kv.mk (n? #[98,97,115,101]) 0 (-1) 0 (ia.mk 0 109573) ([]) ([(fr.mk 7 0)]) (n? #[])
def Bl:ek:=ek.mk (n? #[104,111,117,115,101]) (-1) ([(mu.mk (n? #[97]) (ej.mk 3 0))]) ([(mu.mk (n? #[100]) (ej.mk 3 0))]) [EX]
def Xg:cb:=cb.mk ([]) ([]) [Bl]
def Xo:ka:=ka.mk 0 (-1) 0 (bz.mk 3 0 500) (ia.mk 0 109573) 0
def fj(l:List ka):ml:=ml.mk 0 0 0 l
def kn:ma:=ma.mk 0 0 1 0 0 0 0 (ve.mk 0 ([]))
theorem az4:kl Xg 0 Bl=(0,0):=by
 have hc:ff (eM Bl) Bl.d.length=s5:=db.2 λi hi=>by
  have:i=0:=by grind[Bl]
  subst this;unfold eM;rw[if_neg];rw[←qB];have:(mG Bl 0 Bl.d.length).contains 0=a39:=Θ
  grind
 unfold kl;rw[hc];rfl
def UH:Yo Xg=⟨0,0,0,0⟩:=by
 unfold Yo;simp only[show Xg.r.length=0 from rfl,show Xg.Tables.length=0 from rfl,show Xg.e.length=1 from rfl,ff];rw[show Xg.e[0]?=M Bl from rfl]
 grind[az4]
theorem VP:hhV Xg (fj [Xo])=(0,0):=Θ
def Rz:m? Xg:=by
 have a:J? Bl:=by constructor<;>simp[Bl,EX]
 constructor<;>simp[Xg,a];simp[Bl,EX,cc]
 decide
def GX:E' Xg:=by constructor<;>simp[Xg,Bl]
theorem FX:re kn.au=M a38:=by
 unfold re;rw[Qb (step:=Jc kn.au) (b:=()) rfl];rfl
def ac4{l:List ka}(h:hhV Xg (fj l)=(0,0)):Zc Xg (fj l) kn=M a38:=by
 unfold Zc Ja;rw[wk Rz,wi _ _ Rz.ns,h,UH,FX];rfl
end Go.Proofs.Dev
