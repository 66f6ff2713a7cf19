/-
  The functions as plain partial functions, and plain lemmas about them: no condition.
-/
import Derived.Test.YtmhfebelfmgckaaGreatDoorPC
import Derived.Test.YtmhfebelfmgckaaGreatDoorPB
import Derived.Test.YtmhfebelfmgckaaGreatDoorPA
import Derived.KernelRfl
open Bool renaming and_eq_true->Laa,eq_iff_iff->Vac,false_eq_true->Eaa,not_eq_true->Pac,not_false->mac,not_true->Rab,true_eq_false->Raa
open ByteArray renaming mk->Gaa
open Classical renaming not_not->Haa
open Decidable renaming byContradiction->Pad,not_not->Sab
open Int renaming eq_ofNat_of_zero_le->Saa,le_refl->Qae,lt_or_gt_of_ne->yae,mul_le_mul_of_nonneg_right->xad,natAbs_mul->Qad,natCast_zero->Cad,reduceBEq->Oaa,reduceEq->Jaa,toNat_natCast->Xab
open List renaming all_eq_true->fab,any_eq_false->Iae,contains_iff_mem->aab,drop_eq_getElem_cons->mab,drop_eq_nil_of_le->Dac,eq_nil_of_length_eq_zero->Uaa,eq_of_mem_replicate->sac,ext_getElem->iac,filter_append->uab,filter_congr->Wad,filter_eq_nil_iff->Eac,flatMap_append->uae,foldl_cons->bac,getElem?_cons_zero->oab,getElem?_eq_getElem->Baa,getElem_map->lad,getElem_mem->Iaa,getElem_of_mem->Maa,getElem_range->Bae,length_append->kab,length_cons->bab,length_eq_zero_iff->tad,length_filter_le->Yaa,length_map->dac,length_nil->sab,length_singleton->Cab,length_take->Qac,map_congr_left->Aac,map_nil->Zac,mem_append->tab,mem_append_left->oae,mem_cons->Tab,mem_cons_self->Cae,mem_filter->Bac,mem_map->pac,mem_of_find?_eq_some->kad,mem_of_getElem?->Hab,mem_of_mem_take->uac,mem_range->Lac,mem_singleton->Nab,mem_take_iff_getElem->Sad,nodup_append->Jae,not_mem_nil->bae,pairwise_iff_getElem->Vab,pairwise_lt_range->dae,range->Kaa,range_succ->aad,replicate->Daa,replicate_succ->jab,set_append_right->Iac,set_cons_zero->eac,take_add_one->Xaa,take_length->tac,take_of_length_le->kac
open List.Pairwise renaming imp->Hae
open Nat renaming le_trans->Bab,mul_le_mul->aac,zero_le->pab
open Option renaming any_some->rac,bind->Aaa,bind_some->zaa,getD_some->Lab,map_none->Lad,toList_some->Pab
open Option.some renaming inj->wab
set_option linter.all false
set_option maxRecDepth 10000
set_option maxHeartbeats 1000000
namespace Go.Proofs.Dev
open Go Go.Tm
variable {a:Prop}{b:GValue}{α:Type}{k:Bool->Option α}{N d m sc rec:Int}{env:GEnv}{args:List GValue}{e:List GNode}{out:List Int}{w:List Bool}{f:Nat->Bool}{step:List Bool×Int->Option (Ex (List Bool×Int) (List Bool) Unit)}{p:GDateRange}{ms:GScope}{fs:List GField}{q:List GDateRange}
theorem D3{op:Int}{a:GValue}(c:op=13\/op=14\/op=15\/op=16):Aa op a b=some (decide
 ((op=13/\b.a=2/\(a.a=2\/a.a=3))\/(op=14/\b.a=4/\(a.a=3\/a.a=4))\/(op=15/\((b.a=2/\(a.a=2\/a.a=3))\/(a.a=3/\b.a=3)))\/(op=16/\a.a=3/\b.a=3))):=by
 rcases c with rfl|rfl|rfl|rfl<;>simp only[Aa,Jaa,if_true,if_false,zaa,Oaa,Eaa,false_and,true_and,false_or,or_false]
 .grind
 .grind
 .by_cases g1:b.a=2
  .by_cases g2:a.a=2<;>by_cases g3:a.a=3<;>simp[g1,g2,g3]
  grind
 grind
theorem AN{x y:Int}(hx:-1000000000000000<=x/\x<=1000000000000000) (hy:-1000000000000000<=y/\y<=1000000000000000):Et x y=some (if(x*y).natAbs<=1000000000000000 then(x*y,0)else(0,3)):=by
 unfold Et;rw[WI (by omega) (by omega),WI (by omega) (by omega),nW (by omega) (by omega),zaa];dsimp only;have hn:x.natAbs*y.natAbs=(x*y).natAbs:=(Qad x y).symm;have hb:(x*y).natAbs<=1000000000000000*1000000000000000:=by rw[←hn];exact aac (by omega) (by omega)
 rw[hn];obtain⟨p,e⟩:∃p,(x*y).natAbs=p:=⟨_,rfl⟩;rw[e]at hb⊢;have hs:¬(x*y).natAbs=0->(¬(decide (x<0))=(decide (y<0))↔x*y<0):=by
  intro h0;have c:x≠0:=by grind
  have h2:y≠0:=by grind
  rcases yae c with a|a<;>rcases yae h2 with b|b
  .grind
  .have:=Int.mul_neg_of_neg_of_pos a b
   grind
  .have:=Int.mul_neg_of_pos_of_neg a b
   grind
  grind
 by_cases d:p<=1000000000000000
 .rw[if_pos d];have c:p / 18446744073709551616=0:=by omega
  have h2:p % 18446744073709551616=p:=by omega
  rw[c,h2,if_pos (by rfl),zaa,if_neg (by grind),wid (n:=(p:Int)) (by omega) (by omega),wid (by omega) (by omega)]
  grind
 grind
theorem absO{x:Int}(hx:-9223372036854775807<=x/\x<=9223372036854775807) {k:Int->Option α}:(Aaa (α:=Int) (if x<0 then some (aa .i64 (0-x))else some x) k)=k (x.natAbs:Int):=by
 by_cases h:x<0
 .rw[if_pos h,zaa,wid (by omega) (by omega)];grind
 grind
theorem qM{k:Int}{most:Nat}(hk:(k=2/\most=1000000000000)\/(k=3/\most=1000000000000000)) {x y:Int}(hx:-1000000000000000<=x/\x<=1000000000000000) (hy:-1000000000000000<=y/\y<=1000000000000000) :
 Mo k x y=some (if(x*y).natAbs<=1000000000000000 then Xo ⟨k,0,x*y⟩else(⟨0,0,0⟩,3)):=by
 unfold Mo;have a:Oq k=some (-(most:Int),(most:Int)):=by
  rcases hk with⟨rfl,rfl⟩|⟨rfl,rfl⟩<;>rfl
 rw[a,zaa,absO (by omega),absO (by omega)];have b:∀{α:Type} (f:Bool->Option α),(Aaa (α:=Bool) (if¬(y.natAbs:Int)=0 then(quo .i64 (most:Int) (y.natAbs:Int)).bind λd=>some (decide (d<(x.natAbs:Int)))else some false) f)=f (decide (most<x.natAbs*y.natAbs)):=by
  intro α f;by_cases h0:y.natAbs=0
  .simp_all
  .rw[if_pos (by omega),TO (by omega) (by omega),zaa,zaa];congr 1;rw[decide_eq_decide];rw[←Nat.div_lt_iff_lt_mul (by omega)];omega
 dsimp only;rw[b];have hn:x.natAbs*y.natAbs=(x*y).natAbs:=(Qad x y).symm;have hb:(x*y).natAbs<=1000000000000000*1000000000000000:=by rw[←hn];exact aac (by omega) (by omega)
 rw[hn];have c:Ga ⟨k,0,x*y⟩↔(x*y).natAbs<=most:=by unfold Ga;grind
 by_cases ho:most<(x*y).natAbs
 .rw[if_pos (by simp_all)];have hnp:Xo ⟨k,0,x*y⟩=(⟨0,0,0⟩,3):=if_neg (λh=>absurd (c.1 (of_decide_eq_true h)) (by omega))
  simp_all
 .rw[if_neg (by simp_all),if_pos (by omega),wid (by omega) (by omega),qb];rfl
theorem II{op:Int}{a:GValue}(g:op=13\/op=14\/op=15\/op=16) (ha:Ga a) (hb:Ga b):Ql (Cb ⟨op,N⟩ [a,b] env) (db ⟨op,N⟩ [a,b] env):=by
 have h1:=ha.range;have h2:=hb.range;have c:ea ⟨op,N⟩ [a,b] env=_:=(TA (by omega)).trans (D3 g);have f:pa ⟨op,N⟩ [a,b] env=Gb ⟨op,N⟩ a b:=by
  rw[Av (by omega)];rcases g with rfl|rfl|rfl|rfl<;>simp only[Ja,Jaa,Oaa,if_true,if_false,Eaa,zaa,oi]
 have d:db ⟨op,N⟩ [a,b] env=Wc ⟨op,N⟩ a b:=by
  rcases g with rfl|rfl|rfl|rfl<;>simp only[db,pb,Int.reduceLE,if_true,decide_true,zaa,oi]
 rcases g with rfl|rfl|rfl|rfl
 .simp only[Jaa,true_and,false_and,or_false]at c;have i:Wc ⟨13,N⟩ a b=if b.a=2/\(a.a=2\/a.a=3)then Mo a.a a.N b.N else some (⟨0,0,0⟩,8):=by
   simp only[Wc,Jaa,if_true,if_false,zaa,oi]
   grind
  by_cases hc:b.a=2/\(a.a=2\/a.a=3)
  .rw[decide_eq_true hc]at c;rw[if_pos hc]at i;have m:=qM (k:=a.a) (x:=a.N) (y:=b.N) (most:=if a.a=2 then 1000000000000 else 1000000000000000) (by
    grind) (by omega) (by omega)
   have hq:Gb ⟨13,N⟩ a b=some (⟨a.a,0,(if(a.N*b.N).natAbs<=1000000000000000 then(a.N*b.N,(0:Int))else(0,3)).1⟩,(if(a.N*b.N).natAbs<=1000000000000000 then(a.N*b.N,(0:Int))else(0,3)).2):=by
    simp_all[Gb,AN]
   by_cases h:(a.N*b.N).natAbs<=1000000000000000
   .rw[if_pos h]at m hq
    grind[Dd]
   .rw[if_neg h]at m hq
    grind[Dd]
  .rw[decide_eq_false hc]at c;rw[if_neg hc]at i
   grind[Vl]
 .simp only[Jaa,true_and,false_and,or_false,false_or]at c;by_cases hc:b.a=4/\(a.a=3\/a.a=4)
  .rw[decide_eq_true hc]at c;rcases hc with⟨j,l|l⟩
   .refine Dd (v:=⟨a.a,0,(mdS a.N b.N 1000000 N).1⟩) (e:=(mdS a.N b.N 1000000 N).2) c (f.trans ?_) (d.trans ?_)
    all_goals simp_all[Gb,Wc,vF,iM,Gn]
   .refine Dd (v:=⟨a.a,0,(fR a.N b.N N).1⟩) (e:=(fR a.N b.N N).2) c (f.trans ?_) (d.trans ?_)
    .simp_all[Gb,CK]
    simp_all[Wc,qR,Gn]
  .rw[decide_eq_false hc]at c;refine Vl c (d.trans ?_)
   grind[Wc]
 .simp only[Jaa,true_and,false_and,or_false,false_or]at c;by_cases hc:(b.a=2/\(a.a=2\/a.a=3))\/(a.a=3/\b.a=3)
  .rw[decide_eq_true hc]at c;rcases hc with⟨j,l⟩|⟨j,l⟩
   .refine Dd (v:=⟨a.a,0,(vT a.N b.N N).1⟩) (e:=(vT a.N b.N N).2) c (f.trans ?_) (d.trans ?_)
    .simp_all[Gb,Rg]
    .simp only[Wc,Jaa,if_true,if_false,j,Oaa,beq_self_eq_true,zaa,Pz,Gn,oi,Eaa]
     grind
   .refine Dd (v:=⟨4,0,(frS a.N b.N N).1⟩) (e:=(frS a.N b.N N).2) c (f.trans ?_) (d.trans ?_)
    .simp_all[Gb,Nz]
    simp_all[Wc,wF,Gn]
  .rw[decide_eq_false hc]at c;refine Vl c (d.trans ?_)
   grind[Wc]
 .simp only[Jaa,true_and,false_and,or_false,false_or]at c;by_cases hc:a.a=3/\b.a=3
  .rw[decide_eq_true hc]at c;obtain⟨j,l⟩:=hc;refine Dd (v:=⟨a.a,0,(rtS a.N b.N N).1⟩) (e:=(rtS a.N b.N N).2) c (f.trans ?_) (d.trans ?_)
   .simp_all[Gb,NA]
   simp_all[Wc,qI,Gn]
  .rw[decide_eq_false hc]at c;refine Vl c (d.trans ?_)
   grind[Wc]
theorem R6{op:Int}(hop:36<=op/\op<=39) (t:GType):wc op t=some (decide (t.g=0/\((op=36/\(t.a=2\/t.a=3))\/(op=39/\2<=t.a/\t.a<=5)\/(op≠36/\op≠39/\t.a=1))))/\Cr op t=some (decide (t.g=0/\((op=36/\(t.a=2\/t.a=3))\/(op=39/\2<=t.a/\t.a<=5)\/(op≠36/\op≠39/\t.a=1)))):=by
 unfold wc Cr;simp only[ZM,Vb];by_cases hE:t.g=0
 case neg=>grind
 have hk:(2<=t.a/\t.a<=5)↔((2<=t.a/\t.a<=4)\/t.a=5):=by omega
 have:op=36\/op=37\/op=38\/op=39:=by omega
 rcases this with rfl|rfl|rfl|rfl
 all_goals grind
structure Gath (op:Int) (t:GType) (i:Nat) (x:Int×Int×Int×Int) (y:Int×Int):Prop where
 k:x.1=t.a
 e:x.2.1=0
 n:x.2.2.1=y.1
 xi:x.2.2.2=(i:Int)
 yi:y.2=(i:Int)
 pl:(op=39/\i=0/\y.1=0)\/Ga ⟨t.a,0,y.1⟩
variable {op x y:Int}{t:GType}
theorem N4(he:EnvOk env) (w:36<=op/\op<=39) (hf:ru ⟨op,N⟩ env=true):Ql (Cb ⟨op,N⟩ [] env) (db ⟨op,N⟩ [] env):=by
 have p:0<=N/\N<(env.al.length:Int):=by
  grind[ru]
 have hi:idx env.al N=some (env.al[N.toNat]'(by omega)):=bh p.1 p.2;generalize env.al[N.toNat]'(by omega)=t at hi;obtain⟨m1,m2⟩:=R6 w t;have o:ea ⟨op,N⟩ [] env=wc op t:=by
  unfold ea
  grind
 have D:pa ⟨op,N⟩ [] env=af ⟨op,N⟩ env:=by
  unfold pa;dsimp only;have Q:(op==5)=false:=by grind
  rw[if_neg (by omega),if_neg (by omega),if_neg (by omega),if_neg (by omega),Q,zaa,if_neg (by simp),if_neg (by omega),if_neg (by omega),if_neg (by omega),if_neg (by omega),if_neg (by omega),OY,decide_eq_true w,if_pos rfl,oi]
 have H:db ⟨op,N⟩ [] env=Ko ⟨op,N⟩ env:=by
  simp_all[db]
 rw[m1]at o;have a:=H;unfold Ko at a;dsimp only at a;rw[hi,zaa,m2,zaa]at a;by_cases hc:t.g=0/\((op=36/\(t.a=2\/t.a=3))\/(op=39/\2<=t.a/\t.a<=5)\/(op≠36/\op≠39/\t.a=1))
 case neg=>
  grind[Vl]
 rw[decide_eq_true hc,if_neg (by simp)]at a;rw[decide_eq_true hc]at o;obtain⟨R,S⟩:=hc;have m:(if op=37 then some (1:Int)else some 0)=some (if op=37 then 1 else 0):=by grind
 rw[m,zaa]at a;have F:=oF (s1:=Rc ⟨op,N⟩ env t) (s2:=Qq ⟨op,N⟩ env t) (λx y=>∃i:Nat,i<=env.r.length/\Gath op t i x y) (λx=>(env.r.length-x.2.2.2).toNat) (λx y=>x.1=t.a/\x.2.1=0/\x.2.2=y/\((op=39/\env.r.length=0)\/Ga ⟨t.a,0,y⟩)) (λx y=>x=y/\x.2≠0/\x.1=⟨0,0,0⟩) (by
  rintro⟨U,P,c,x4⟩ ⟨y1,y2⟩ ⟨i,hil,⟨g1,g2,g3,g4,g5,A⟩⟩;dsimp only at g1 g2 g3 g4 g5 A;subst g1;subst g2;subst g3;subst g4;subst g5;unfold Rc Qq;dsimp only;by_cases G:i<env.r.length
  case neg=>
   rw[if_neg (by omega),if_neg (by omega)]
   grind
  rw[if_pos (by omega),if_pos (by omega),ya G];simp only[zaa];generalize env.r[i]=l;by_cases hN:(l.length:Int)<=N
  .rw[if_neg (by omega)];simp
  rw[if_pos hN,bh p.1 (by omega)];simp only[zaa,Dt,uR];generalize l[N.toNat]'(by omega)=v;by_cases hv0:v.a=0
  .simp_all
  rw[show(v.a==0)=false by simp[hv0]];simp only[Eaa,if_false];by_cases E:(Yw v&&(decide (v.a=t.a)&&decide (v.g=t.g)))=true
  case neg=>
   simp_all
  rw[E];simp only[Laa,decide_eq_true_eq]at E;obtain⟨T,K,hve⟩:=E;have s:Ga v:=of_decide_eq_true T;have hvr:=s.range;simp only[Raa,if_false];have hacc:-1000000000000000<=c/\c<=1000000000000000:=by
   rcases A with⟨_,_,h⟩|h
   .omega
   .have:=h.range;simp_all
  have hvt:v=⟨t.a,0,v.N⟩:=by
   obtain⟨k,e,n⟩:=v
   simp_all
  have ops:op=36\/op=37\/op=38\/op=39:=by omega
  rcases ops with rfl|rfl|rfl|rfl
  ·
    simp only[Jaa,if_true,As,wid (n:=c+v.N) (by omega) (by omega),zaa,eb,qb,Xo];by_cases I:Yw ⟨t.a,0,c+v.N⟩=true
    .rw[I];simp only[Raa,if_false,if_true,zaa,not_true];rw[sa (by have:=he.mem;omega)];exact .inl ⟨_,_,rfl,rfl,⟨i+1,by omega,⟨rfl,rfl,rfl,rfl,rfl,.inr (of_decide_eq_true I)⟩⟩,by grind⟩
    .rw[Bool.eq_false_iff.2 I];simp
  ·
    have q:t.a=1:=by omega
    have J:=SO s (by omega);have L:c=0\/c=1:=by
     rcases A with⟨h,_⟩|h
     .omega
     .exact(SO h q).2
    have r:c*v.N=min c v.N:=by
     grind
    have b:Ga ⟨t.a,0,min c v.N⟩:=by grind
    simp only[Jaa,if_true,if_false,As,r,wid (n:=min c v.N) (by omega) (by omega),zaa,qb,vA b,not_true];rw[sa (by have:=he.mem;omega)];exact .inl ⟨_,_,rfl,rfl,⟨i+1,by omega,⟨rfl,rfl,rfl,rfl,rfl,.inr b⟩⟩,by grind⟩
  ·
    have q:t.a=1:=by omega
    have J:=SO s (by omega);have L:c=0\/c=1:=by
     rcases A with⟨h,_⟩|h
     .omega
     .exact(SO h q).2
    have r:(if c<v.N then some v.N else some c)=some (max c v.N):=by
     grind
    have b:Ga ⟨t.a,0,max c v.N⟩:=by grind
    simp only[Jaa,if_true,if_false,As,r,zaa,qb,vA b,not_true];rw[sa (by have:=he.mem;omega)];exact .inl ⟨_,_,rfl,rfl,⟨i+1,by omega,⟨rfl,rfl,rfl,rfl,rfl,.inr b⟩⟩,by grind⟩
  ·
    have j:∀{α:Type} (f:Bool->Option α),(Aaa (α:=Bool) (if¬(i:Int)=0 then some (decide (c<v.N))else some true) f)=f (decide ((i:Int)=0\/c<v.N)):=by
     grind
    have g:∀{α:Type} (f:Bool->Option α),(Aaa (α:=Bool) (if((i:Int)==0)=false then some (decide (c<v.N))else some true) f)=f (decide ((i:Int)=0\/c<v.N)):=by
     grind
    simp only[Jaa,if_true,if_false,As,j,g];by_cases hb:(i:Int)=0\/c<v.N
    .rw[decide_eq_true hb];have b:Ga ⟨t.a,0,v.N⟩:=by grind
     simp only[if_true,zaa,qb,vA b,not_true,if_false];rw[sa (by have:=he.mem;omega)];exact .inl ⟨_,_,rfl,rfl,⟨i+1,by omega,⟨K,by grind,rfl,rfl,rfl,.inr b⟩⟩,by grind⟩
    .rw[decide_eq_false hb];have b:Ga ⟨t.a,0,c⟩:=by
      grind
     simp only[Eaa,if_false,zaa,qb,vA b,not_true];rw[sa (by have:=he.mem;omega)];exact .inl ⟨_,_,rfl,rfl,⟨i+1,by omega,⟨rfl,rfl,rfl,rfl,rfl,.inr b⟩⟩,by grind⟩) env.r.length (t.a,t.g,(if op=37 then 1 else 0),0) ((if op=37 then 1 else 0),0) (by simp) ⟨0,pab _,rfl,R,rfl,rfl,rfl,by
    rcases S with⟨h,h2⟩|⟨h,h2⟩|⟨h,h2,h3⟩
    .right;rw[if_neg (by omega)];unfold Ga;grind
    .omega
    .right;unfold Ga;grind⟩
 have u:∀{α:Type} (f:Bool->Option α),(Aaa (α:=Bool) (if op=39 then some ((env.r.length:Int)==0)else some false) f)=f (decide (op=39/\env.r.length=0)):=by
  intro α f;by_cases h:op=39
  .rw[if_pos h,zaa];congr 1
   grind
  simp_all
 have d:=D;unfold af at d;dsimp only at d;rw[hi,zaa,m,zaa,u]at d;simp only[u]at a;rcases F with⟨⟨b1,b2,b3⟩,y,M,O,q1,B,z,q4⟩|⟨x,y,M,O,rfl,B,z⟩
 .dsimp only at q1 B z;subst q1;subst B;subst z;rw[M]at d;rw[O,zaa]at a;dsimp only at a;by_cases C:op=39/\env.r.length=0
  .grind[Dd]
  .rw[decide_eq_false C]at d a;simp only[Eaa,if_false,zaa,qb]at d a
   grind[Dd]
 .rw[M]at d;rw[O,zaa]at a;dsimp only at a;obtain⟨U,P⟩:=x;dsimp only at B z;subst z;by_cases C:op=39/\env.r.length=0
  .exfalso;have:ca (Rc ⟨op,N⟩ env t) (t.a,t.g,(if op=37 then 1 else 0),0)=some (.inl (t.a,t.g,(if op=37 then 1 else 0))):=by
    simp_all[Rc,vc]
   simp_all
  .rw[decide_eq_false C]at d;exact Dd (v:=⟨0,0,0⟩) (e:=P) o d (by simp_all)
theorem OS{n:GNode}(he:EnvOk env) (hN:Kb n) (hl:args.length<=3):Ql (Ff n args env) (Wp n args env):=by
 refine YS hl λd h2 h3 h4 h5=>?_;obtain⟨op,N⟩:=n;dsimp only at d h2;have two:(11<=op/\op<=24)\/(27<=op/\op<=30)->∃a b,args=[a,b]:=by
  intro h;have:args.length=2:=by grind[ub]
  match args,this with
  |[a,b],_=>simp
 have one:op=10\/op=25\/(31<=op/\op<=34)->∃a,args=[a]:=by
  intro h;have:args.length=1:=by grind[ub]
  match args,this with
  |[a],_=>simp
 have zero:op<=9\/35<=op->args=[]:=by
  grind[ub,tad]
 rcases Mz d with h|h|h|h|h|h|h|h|h|h|h|h|h|h|h|h|h|h|h|h|h|h|h|h|h|h|h|h|h|h|h|h|h|h|h|h|h|h|h<;>subst h
 .grind[rB]
 .grind[rB]
 .grind[rB]
 .grind[rB]
 .grind[rB]
 .grind[core_6]
 .grind[core_7]
 .grind[core_8]
 .grind[core_9]
 .obtain⟨a,rfl⟩:=one (by omega);grind[core_10]
 .obtain⟨a,b,rfl⟩:=two (by omega);grind[oV]
 .obtain⟨a,b,rfl⟩:=two (by omega);grind[oV]
 .obtain⟨a,b,rfl⟩:=two (by omega);grind[II]
 .obtain⟨a,b,rfl⟩:=two (by omega);grind[II]
 .obtain⟨a,b,rfl⟩:=two (by omega);grind[II]
 .obtain⟨a,b,rfl⟩:=two (by omega);grind[II]
 .obtain⟨a,b,rfl⟩:=two (by omega);grind[pV]
 .obtain⟨a,b,rfl⟩:=two (by omega);grind[pV]
 .obtain⟨a,b,rfl⟩:=two (by omega);grind[qV]
 .obtain⟨a,b,rfl⟩:=two (by omega);grind[qV]
 .obtain⟨a,b,rfl⟩:=two (by omega);grind[rV]
 .obtain⟨a,b,rfl⟩:=two (by omega);grind[rV]
 .obtain⟨a,b,rfl⟩:=two (by omega);grind[sV]
 .obtain⟨a,b,rfl⟩:=two (by omega);grind[sV]
 .obtain⟨a,rfl⟩:=one (by omega);grind[core_25]
 .have:args.length=3:=by grind[ub]
  match args,this with
  |[a,b,c],_=>grind[core_26]
 .obtain⟨a,b,rfl⟩:=two (by omega);grind[core_27]
 .obtain⟨a,b,rfl⟩:=two (by omega);grind[core_28]
 .obtain⟨a,b,rfl⟩:=two (by omega);grind[tV]
 .obtain⟨a,b,rfl⟩:=two (by omega);grind[tV]
 .obtain⟨a,rfl⟩:=one (by omega);grind[GM]
 .obtain⟨a,rfl⟩:=one (by omega);grind[GM]
 .obtain⟨a,rfl⟩:=one (by omega);grind[core_33]
 .obtain⟨a,rfl⟩:=one (by omega);grind[core_34]
 all_goals grind[core_35,N4]
theorem VF{a:GValue}(f:op=13\/op=14\/op=15\/op=16) (ha:Ga a) (hb:Ga b):Tx (Cb ⟨op,N⟩ [a,b] env):=by
 have h1:=ha.range;have h2:=hb.range;have c:ea ⟨op,N⟩ [a,b] env=_:=(TA (by omega)).trans (D3 f);have d:pa ⟨op,N⟩ [a,b] env=Gb ⟨op,N⟩ a b:=by
  rw[Av (by omega)];rcases f with rfl|rfl|rfl|rfl<;>simp only[Ja,Jaa,Oaa,if_true,if_false,Eaa,zaa,oi]
 rcases f with rfl|rfl|rfl|rfl
 .simp only[Jaa,true_and,false_and,or_false]at c;have hq:Gb ⟨13,N⟩ a b=some (⟨a.a,0,(if(a.N*b.N).natAbs<=1000000000000000 then(a.N*b.N,(0:Int))else(0,3)).1⟩,(if(a.N*b.N).natAbs<=1000000000000000 then(a.N*b.N,(0:Int))else(0,3)).2):=by
   simp_all[Gb,AN]
  grind[Tx.ite]
 .simp only[Jaa,true_and,false_and,or_false,false_or]at c;by_cases hc:b.a=4/\(a.a=3\/a.a=4)
  .rw[decide_eq_true hc]at c;rcases hc with⟨h,g|g⟩
   .refine Pl (v:=⟨a.a,0,(mdS a.N b.N 1000000 N).1⟩) (e:=(mdS a.N b.N 1000000 N).2) c (d.trans ?_)
    simp_all[Gb,vF]
   .refine Pl (v:=⟨a.a,0,(fR a.N b.N N).1⟩) (e:=(fR a.N b.N N).2) c (d.trans ?_)
    simp_all[Gb,CK]
  grind[tw]
 .simp only[Jaa,true_and,false_and,or_false,false_or]at c;by_cases hc:(b.a=2/\(a.a=2\/a.a=3))\/(a.a=3/\b.a=3)
  .rw[decide_eq_true hc]at c;rcases hc with⟨h,g⟩|⟨h,g⟩
   .refine Pl (v:=⟨a.a,0,(vT a.N b.N N).1⟩) (e:=(vT a.N b.N N).2) c (d.trans ?_)
    simp_all[Gb,Rg]
   .refine Pl (v:=⟨4,0,(frS a.N b.N N).1⟩) (e:=(frS a.N b.N N).2) c (d.trans ?_)
    simp_all[Gb,Nz]
  grind[tw]
 .simp only[Jaa,true_and,false_and,or_false,false_or]at c;refine Tx.ite (v:=⟨a.a,0,(rtS a.N b.N N).1⟩) (e:=(rtS a.N b.N N).2) c λhc=>d.trans ?_
  simp_all[Gb,NA]
theorem PY(hop:36<=op/\op<=39) (t:GType):wc op t=some (decide (t.g=0/\((op=36/\(t.a=2\/t.a=3))\/(op=39/\2<=t.a/\t.a<=5)\/(op≠36/\op≠39/\t.a=1)))):=by
 unfold wc;simp only[ZM,Vb];by_cases hE:t.g=0
 case neg=>grind
 have hk:(2<=t.a/\t.a<=5)↔((2<=t.a/\t.a<=4)\/t.a=5):=by omega
 have:op=36\/op=37\/op=38\/op=39:=by omega
 rcases this with rfl|rfl|rfl|rfl
 all_goals grind
theorem bW{σ β ρ:Type}{s:σ->Option (Ex σ β ρ)}(I:σ->Prop) (a:σ->Nat) (QB:β->Prop) (QR:ρ->Prop)
 (h:∀x,I x->(∃d,s x=some (.go d)/\I d/\a d<a x)\/(∃b,s x=some (.brk b)/\QB b)\/∃b,s x=some (.ret b)/\QR b)
 {x:σ} (hi:I x):(∃b,ca s x=some (.inl b)/\QB b)\/∃b,ca s x=some (.inr b)/\QR b:=by
 have:=oF (s1:=s) (s2:=s) (λx y=>x=y/\I x) a (λb c=>b=c/\QB b) (λb c=>b=c/\QR b) (by
  grind) (a x) x x (Nat.le_refl _) ⟨rfl,hi⟩
 grind
theorem TZ(he:EnvOk env) (g:36<=op/\op<=39) (hf:ru ⟨op,N⟩ env=true):Tx (Cb ⟨op,N⟩ [] env):=by
 have a:0<=N/\N<(env.al.length:Int):=by
  grind[ru]
 have hi:idx env.al N=some (env.al[N.toNat]'(by omega)):=bh a.1 a.2;generalize env.al[N.toNat]'(by omega)=t at hi;have hal:ea ⟨op,N⟩ [] env=wc op t:=by
  unfold ea
  grind
 have hcm:pa ⟨op,N⟩ [] env=af ⟨op,N⟩ env:=by
  unfold pa;dsimp only;have w:(op==5)=false:=by grind
  rw[if_neg (by omega),if_neg (by omega),if_neg (by omega),if_neg (by omega),w,zaa,if_neg (by simp),if_neg (by omega),if_neg (by omega),if_neg (by omega),if_neg (by omega),if_neg (by omega),OY,decide_eq_true g,if_pos rfl,oi]
 have hov:∃p,af ⟨op,N⟩ env=some p:=by
  unfold af;dsimp only;rw[hi,zaa];obtain⟨j,hj⟩:∃j,(if op=37 then some (1:Int)else some 0)=some j:=by split<;>exact⟨_,rfl⟩
  obtain⟨b,hb⟩:∃b,(if op=39 then some ((env.r.length:Int)==0)else some false)=some b:=by split<;>exact⟨_,rfl⟩
  rw[hj,zaa,hb,zaa]
  cases b with
  |true=>simp
  |false=>
   rw[if_neg (by simp)];have f:=bW (s:=Rc ⟨op,N⟩ env t) (λx=>0<=x.2.2.2/\x.2.2.2<=(env.r.length:Int)) (λx=>(env.r.length-x.2.2.2).toNat) (λ_=>True) (λ_=>True) (by
    rintro⟨C,D,k,d⟩ ⟨g1,g2⟩;dsimp only at g1 g2;unfold Rc;dsimp only;by_cases c:d<(env.r.length:Int)
    case neg=>rw[if_neg c];simp
    rw[if_pos c,bh g1 c];simp only[zaa];generalize env.r[d.toNat]'(by omega)=l;by_cases hN:(l.length:Int)<=N
    .rw[if_neg (by omega)];simp
    rw[if_pos hN,bh a.1 (by omega)];simp only[zaa,Dt,eb];generalize l[N.toNat]'(by omega)=v;have hgo:∀m n o:Int,∃e,(some (Ex.go (m,n,o,aa .i64 (d+1))):Option (Ex (Int×Int×Int×Int) (Int×Int×Int) (GValue×Int)))=some (.go e)/\(0<=e.2.2.2/\e.2.2.2<=(env.r.length:Int))/\(env.r.length-e.2.2.2).toNat<(env.r.length-d).toNat:=by
     intro m n o;have:=he.mem;rw[wid (by omega) (by omega)]
     grind
    by_cases hv0:v.a=0
    .simp_all
    have h:(v.a==0)=false:=by simp[hv0]
    simp only[h,Eaa,if_false];by_cases y:(Yw v&&(decide (v.a=t.a)&&decide (v.g=t.g)))=true
    case neg=>
     simp_all
    rw[y];simp only[Raa,if_false];by_cases i:op=36
    .simp only[i,if_true];cases Yw ⟨C,D,aa .i64 (k+v.N)⟩
     all_goals simp_all
    simp only[i,if_false];by_cases z:op=37
    .simp_all
    simp only[z,if_false];by_cases A:op=38
    .simp_all
    have B:op=39:=by omega
    simp only[A,B,if_false,if_true];obtain⟨b,hb⟩:∃b,(if¬d=0 then some (decide (k<v.N))else some true)=some b:=by grind
    rw[hb,zaa];cases b
    all_goals simp_all) (x:=(t.a,t.g,j,0)) ⟨by simp,by simp⟩
   rcases f with⟨⟨q,r,b3⟩,u,-⟩|⟨⟨q,r⟩,u,-⟩
   all_goals simp_all
 grind[PY,Tx.ite]
theorem Apply_p{n:GNode}(he:EnvOk env) (hN:Kb n) (hl:args.length<=3):Tx (Ff n args env):=by
 refine JP hl λd h2 h3 h4 h5=>?_;obtain⟨op,N⟩:=n;dsimp only at d h2;have two:(11<=op/\op<=24)\/(27<=op/\op<=30)->∃a b,args=[a,b]:=by
  intro h;have:args.length=2:=by grind[ub]
  match args,this with
  |[a,b],_=>simp
 have one:op=10\/op=25\/(31<=op/\op<=34)->∃a,args=[a]:=by
  intro h;have:args.length=1:=by grind[ub]
  match args,this with
  |[a],_=>simp
 have zero:op<=9\/35<=op->args=[]:=by
  grind[ub,tad]
 rcases Mz d with h|h|h|h|h|h|h|h|h|h|h|h|h|h|h|h|h|h|h|h|h|h|h|h|h|h|h|h|h|h|h|h|h|h|h|h|h|h|h<;>subst h
 .grind[dA]
 .grind[dA]
 .grind[dA]
 .grind[dA]
 .grind[dA]
 .grind[tcore_6]
 .grind[tcore_7]
 .grind[tcore_8]
 .grind[tcore_9]
 .obtain⟨a,rfl⟩:=one (by omega);grind[haa]
 .obtain⟨a,b,rfl⟩:=two (by omega);grind[VR]
 .obtain⟨a,b,rfl⟩:=two (by omega);grind[VR]
 .obtain⟨a,b,rfl⟩:=two (by omega);grind[VF]
 .obtain⟨a,b,rfl⟩:=two (by omega);grind[VF]
 .obtain⟨a,b,rfl⟩:=two (by omega);grind[VF]
 .obtain⟨a,b,rfl⟩:=two (by omega);grind[VF]
 .obtain⟨a,b,rfl⟩:=two (by omega);grind[WR]
 .obtain⟨a,b,rfl⟩:=two (by omega);grind[WR]
 .obtain⟨a,b,rfl⟩:=two (by omega);grind[XR]
 .obtain⟨a,b,rfl⟩:=two (by omega);grind[XR]
 .obtain⟨a,b,rfl⟩:=two (by omega);grind[YR]
 .obtain⟨a,b,rfl⟩:=two (by omega);grind[YR]
 .obtain⟨a,b,rfl⟩:=two (by omega);grind[ZR]
 .obtain⟨a,b,rfl⟩:=two (by omega);grind[ZR]
 .obtain⟨a,rfl⟩:=one (by omega);grind[iaa]
 .have:args.length=3:=by grind[ub]
  match args,this with
  |[a,b,c],_=>grind[jaa]
 .obtain⟨a,b,rfl⟩:=two (by omega);grind[kaa]
 .obtain⟨a,b,rfl⟩:=two (by omega);grind[laa]
 .obtain⟨a,b,rfl⟩:=two (by omega);grind[aS]
 .obtain⟨a,b,rfl⟩:=two (by omega);grind[aS]
 .obtain⟨a,rfl⟩:=one (by omega);grind[tL]
 .obtain⟨a,rfl⟩:=one (by omega);grind[tL]
 .obtain⟨a,rfl⟩:=one (by omega);grind[maa]
 .obtain⟨a,rfl⟩:=one (by omega);grind[naa]
 all_goals grind[oaa,TZ]
theorem w7(h:Wst e) (hN:∀n∈e,Kb n) (he:EnvOk env):∀i,i<e.length->NodeP e env i:=
 node_g h λi hi _=>Apply_p he (Z6 hN hi) (by grind[lG,SD])
theorem dV(hN:∀n∈e,Kb n) (he:EnvOk env) (h:Wst e):Wj e env=some (MI e env (e.length-1))/\((MI e env (e.length-1)).2=0->Ga (MI e env (e.length-1)).1):=
 Eval_g h (w7 h hN he _ (by have:=h.pos;omega))
theorem Z1(hN:∀n∈e,Kb n) (he:EnvOk env):Tx (Wj e env):=by
 by_cases a:(Pn e).2.2=0
 .obtain⟨b,h2⟩:=dV hN he (nH a);exact⟨_,b,h2⟩
 .unfold Wj Ks;rw[Gq];simp only[zaa];rw[if_pos a];exact⟨_,rfl,λh=>absurd h a⟩
theorem q7(h:Wst e) (hN:∀n∈e,Kb n) (he:EnvOk env):∀i,i<e.length->NodeB e env i:=
 node_gb h λi hi _=>OS he (Z6 hN hi) (by grind[UA,SD])
theorem vM(hN:∀n∈e,Kb n) (he:EnvOk env):∃p,Wj e env=some p/\Su e env=some p/\(p.2=0->Ga p.1):=by
 have hf:1000000<=tf:=by grind[tf]
 unfold Wj Su Ks Mw;rw[Gq,Rt];simp only[zaa];by_cases a:(Pn e).2.2=0
 .have h:=nH a;have hp:=h.pos;have hle:=h.le;rw[if_neg (Haa.2 a),if_neg (Haa.2 a),vE h];have e1:aa .i64 ((e.length:Int)-1)=((e.length-1:Nat):Int):=by grind[wid]
  have hb:=q7 h hN he (e.length-1) (by omega);unfold ti Cy;rw[e1,hb.p _ (by omega),hb.r _ (by omega)];exact⟨_,rfl,rfl,hb.ok⟩
 simp_all
theorem Dy{l:List Int}(hl:l.length<=1073741824) (x:Int):Us l x=some (l.contains x):=by
 have h:ca (bu l x) 0=some (Eb () (ff (λi=>if(l[i]?.any λy=>y==x)=true then some true else none) l.length)):=
  xb (λi=>(i:Int)) _ l.length () (λi hi _=>by
   unfold bu;rw[if_pos (by omega),ya hi,Baa hi]
   grind[aD,sa]) (λ_=>by grind[bu])
 unfold Us;have ha:=Ku (l:=l) (q:=λy=>y==x) (g:=λ_=>true);rw[h];have e:l.contains x=l.any λy=>y==x:=by
  grind
 rw[e]
 cases hf:ff (λi=>if(l[i]?.any λy=>y==x)=true then some true else none) l.length with
 |none=>
  have:l.any (λy=>y==x)=false:=by
   simp_all
  rw[this];rfl
 |some v=>
  have:l.any (λy=>y==x)=true:=by
   simp_all
  obtain⟨k,_,h2,_⟩:=Pa.1 hf;split at h2
  .injection h2 with h2;subst h2;rw[this];rfl
  simp_all
theorem LD{s:GScope}(a:ScOk s) (ho:out.length<=1048576) (d:Int):Vv s d out=some ((ou s d).all λe=>out.contains e):=by
 unfold Vv;rw[Cx a,zaa];have hd:=(vB s d).len;have hdl:(ou s d).length<=1048576:=by have:=a.defs;omega
 have h:ca (aq out (ou s d)) 0=some (Eb () (ff (λi=>if((ou s d)[i]?.any λy=>!out.contains y)=true then some false else none) (ou s d).length)):=
  xb (λi=>(i:Int)) _ (ou s d).length () (λi hi _=>by
   unfold aq;rw[if_pos (by omega),ya hi,Baa hi]
   grind[aD,Dy,sa]) (λ_=>by grind[aq])
 rw[h];have ha:=Ku (l:=ou s d) (q:=λy=>!out.contains y) (g:=λ_=>false);have e:((ou s d).all λe=>out.contains e) = !(ou s d).any λy=>!out.contains y:=by
  grind
 rw[e]
 cases hf:ff (λi=>if((ou s d)[i]?.any λy=>!out.contains y)=true then some false else none) (ou s d).length with
 |none=>
  have:(ou s d).any (λy=>!out.contains y)=false:=by
   simp_all
  rw[this];rfl
 |some v=>
  have:(ou s d).any (λy=>!out.contains y)=true:=by
   simp_all
  obtain⟨k,_,h2,_⟩:=Pa.1 hf;split at h2
  .injection h2 with h2;subst h2;rw[this];rfl
  simp_all
theorem Z2{s:GScope}{d:Nat}(hd:d<s.d.length):∃l,(Sj s)[d]?=some l/\∀x,x∈l↔YH s d x:=by
 have hl:=fm s;refine⟨(Sj s)[d]'(by omega),Baa (by omega),λx=>?_⟩
 grind[PB]
theorem z8{s:GScope}{d:Nat}(hd:d<s.d.length):fD (Sj s) out d=(!out.contains (d:Int)&&(ou s d).all λe=>out.contains e):=by
 obtain⟨l,a,h2⟩:=Z2 hd;unfold fD;rw[List.getD_eq_getElem?_getD,a];congr 1;rw[Vac,fab,fab]
 grind[SB]
theorem next_s{s:GScope}(e:ScOk s) (ho:out.length<=1048576):ca (Pc s out) 0=some (.inl (match (Kaa (Sj s).length).find? (fD (Sj s) out)with|some d=>(d:Int)|none=>(s.d.length:Int))):=by
 have hdl:=e.defs;have hal:=fm s;obtain⟨N,hN,c,b,hv⟩:∃N:Nat,N<=s.d.length/\(∀j,j<N->fD (Sj s) out j=false)/\(N<s.d.length->fD (Sj s) out N=true)/\(match (Kaa (Sj s).length).find? (fD (Sj s) out)with|some d=>(d:Int)|none=>(s.d.length:Int))=(N:Int):=by
  cases hf:(Kaa (Sj s).length).find? (fD (Sj s) out)with
  |none=>
   grind
  |some d=>
   have a:=List.find?_some hf;have h2:=kad hf;rw[Lac]at h2;refine⟨d,by omega,λj hj=>?_,λ_=>a,rfl⟩
   simp_all
 rw[hv];refine kf (step:=Pc s out) (λi=>(i:Int)) N _ (λi hi=>?_) ?_ rfl
 .unfold Pc;have a:=c i hi;rw[z8 (by omega)]at a;rw[if_pos (by omega),Dy (Bab ho (by decide)),zaa,LD e ho];cases hc:out.contains (i:Int)
  .rw[hc]at a;simp only[mac,Bool.true_and]at a;rw[a];simp only[if_true,zaa,mac]
   grind[sa]
  .simp only[Raa,if_false,zaa,if_true]
   grind[sa]
 .unfold Pc;rcases Nat.lt_or_ge N s.d.length with h|h
  .have a:=b h;rw[z8 h]at a;rw[if_pos (by omega),Dy (Bab ho (by decide)),zaa,LD e ho]
   simp_all
  grind
theorem uN{s:GScope}(c:ScOk s):∀(k:Nat) (out:List Int),out.length+k=s.d.length->(ca (Qc s) out).bind (λy=>match y with|.inr v=>some v|.inl a=>some (a,0))=some (iv (Sj s) k out)
 |0,out,h=>by
  rw[vc (b:=out) (by simp_all[Qc])];rfl
 |k+1,out,h=>by
  have hdl:=c.defs;have hn:=next_s c (out:=out) (by omega);have hal:=fm s;unfold iv
  cases hf:(Kaa (Sj s).length).find? (fD (Sj s) out)with
  |none=>
   rw[hf]at hn;dsimp only at hn;rw[Ms (v:=([],9)) (by unfold Qc;grind)];rfl
  |some d=>
   rw[hf]at hn;dsimp only at hn;have h2:=kad hf;rw[Lac]at h2;rw[yg (s':=out++[(d:Int)]) (by unfold Qc;rw[if_pos (by omega),hn,zaa];dsimp only;rw[if_neg (by omega),uf (by grind)];rfl)];exact uN c k (out++[(d:Int)]) (by grind)
theorem Tz{s:GScope}(hs:ScOk s):Cg s=some (Qu (Sj s)):=by
 grind[Cg,Qu,fm,uN]
theorem rn{s:GScope}(hs:ScOk s):Xe s=some (Qu (Sj s)):=by
 grind[Xe,xq]
theorem PH{g:List (List Int)}:∀(k:Nat) (out:List Int),(∀x∈out,0<=x/\x<(g.length:Int))->(out.length+k<=g.length)->(∀x∈(iv g k out).1,0<=x/\x<(g.length:Int))/\(iv g k out).1.length<=g.length
 |0,out,h,hl=>⟨h,hl⟩
 |k+1,out,h,hl=>by
  unfold iv;split
  .rename_i d hf;have h2:=kad hf;rw[Lac]at h2;refine PH k _ (λx hx=>?_) (by grind)
   grind
  simp
theorem tK(g:List (List Int)):(∀x∈(Qu g).1,0<=x/\x<(g.length:Int))/\(Qu g).1.length<=g.length:=PH g.length [] (λx hx=>by simp at hx) (by simp)
def VM(n:Nat) (x:Int):Prop:=x = -1\/x = -2\/(0<=x/\x<(n:Int))
theorem D7{t1:List Int}{out:Int->Int}{l:List Int}{n:Nat}(h:∀x∈l,VM n (out x)):VM n (uP t1 out l):=by
 unfold uP;have hs:=mz (t1:=t1) (out:=out) (l:=l);split
 .exact .inl rfl
 .simp_all
 .exact .inr (.inl rfl)
theorem oc_in{t0 t1:List Int}{t2:List Bool}:∀(k:Nat) (i:Int),0<=i->i<(t0.length:Int)->VM t0.length (oc t0 t1 t2 k i)
 |0,i,_,_=>.inl rfl
 |k+1,i,a,b=>by
  unfold oc;split
  .exact .inr (.inr ⟨a,b⟩)
  .exact D7 λx hx=>by
    obtain⟨j,rfl,hj,-⟩:=ME hx;exact oc_in k _ (by omega) (by omega)
theorem VW(t0 t1:List Int) (t2:List Bool):VM t0.length (dP t0 t1 t2):=by
 unfold dP;split
 .exact D7 λx hx=>by
   obtain⟨j,rfl,hj,-⟩:=ME hx;exact oc_in t0.length _ (by omega) (by omega)
 .exact .inl rfl
structure ScE (s:GScope):Prop where
 ok:ScOk s
 n:∀r∈s.f,(∀n∈r.ac,Kb n)/\(∀n∈r.Value,Kb n)
variable {s:GScope}
def vP:GEvalError:=⟨0,0,0,0⟩
theorem VP(A:ScE s) (he:EnvOk env) (m d:Int):∃p,He s env m d=some p/\du s env m d=some p/\(p.2.Code=0->VM s.f.length p.1):=by
 have hr:=A.ok.rules;unfold He du;rw[Yr hr,PK hr,zaa,zaa];obtain⟨hl1,o,g⟩:=fu (rules:=s.f) (q:=DE d env.ae) s.f.length;have hm:=EF (rules:=s.f) (q:=DE d env.ae) s.f.length;unfold yL;generalize (Se s.f (DE d env.ae) s.f.length).2.1=par at g⊢;generalize (Se s.f (DE d env.ae) s.f.length).1=L at o g hm⊢;generalize L.map (zA s)=k;dsimp only;rw[Zy (by omega) (by omega),zaa];have t:=oF (s1:=Qg s env m d (L,par,k)) (s2:=Sr s env m d (L,par,k))
  (λx y=>∃i:Nat,i<=L.length/\x.2=(i:Int)/\y.2=(i:Int)/\y.1.length=i/\x.1=y.1++Daa (L.length-i) false) (λx=>(L.length-x.2).toNat)
  (λx y=>x=y) (λx y=>x=y/\x.2.Code≠0) (by
   rintro⟨a,a2⟩ ⟨b,b2⟩ ⟨i,i1,B,C,E,D⟩;dsimp only at B C E D;subst B;subst C;subst D;unfold Qg Sr;dsimp only;by_cases hi:i<L.length
   case neg=>
    rw[if_neg (by omega),if_neg (by omega)]
    simp_all
   have hx:=hm _ (Iaa hi);rw[if_pos (by omega),if_pos (by omega),ya hi];simp only[zaa];generalize L[i]=x at hx⊢;rw[bh hx.1 hx.2.1];simp only[zaa];have e:s.f[x.toNat]'(by omega)∈s.f:=Iaa _;generalize s.f[x.toNat]'(by omega)=r at e;have hN:=(A.n r e).1;have step:∀v:Bool,(Aaa (α:=((List Bool)⊕(Ex ((List Bool)×Int) (List Bool) (Int×GEvalError)))) ((idx (b++Daa (L.length-i) false) (i:Int)).bind λx13=>(put (b++Daa (L.length-i) false) (i:Int) v).bind λw=>some (Sum.inl w)) λz=>match z with|.inr v=>some v|.inl f=>some (Ex.go (f,(aa .i64 ((i:Int)+1)))))=some (.go ((b++[v])++Daa (L.length-(i+1)) false,((i+1:Nat):Int))):=by
    intro v;rw[ya (by simp_all),zaa,aB (by simp_all),zaa,zaa];dsimp only;rw[sa (by omega),Iac _ _ (by omega),show i-b.length=0 by omega,show L.length-i=(L.length-(i+1))+1 by omega,jab,eac];simp
   have step2:∀v:Bool,(Aaa (α:=((List Bool)⊕(Ex ((List Bool)×Int) (List Bool) (Int×GEvalError)))) ((app 1 b ([v])).bind λu=>some (Sum.inl u)) λz=>match z with|.inr v=>some v|.inl f=>some (Ex.go (f,(aa .i64 ((i:Int)+1)))))=some (.go (b++[v],((i+1:Nat):Int))):=by
    grind[uf,sa]
   by_cases j:(r.ac.length:Int)=0
   .rw[if_pos j,if_pos j];exact .inl ⟨_,_,step true,step2 true,⟨i+1,by omega,rfl,rfl,by simp_all,rfl⟩,by omega⟩
   .rw[if_neg j,if_neg j];obtain⟨p,F,G,p3⟩:=vM hN he;rw[F,G,zaa,zaa];by_cases hc:p.2=0
    .rw[if_neg (Haa.2 hc),if_neg (Haa.2 hc)];exact .inl ⟨_,_,step _,step2 _,⟨i+1,by omega,rfl,rfl,by simp_all,rfl⟩,by omega⟩
    simp_all) L.length (Daa L.length false,0) (([]:List Bool),0) (by omega) ⟨0,pab _,rfl,rfl,rfl,by simp⟩
 rcases t with⟨x,y,g1,g2,rfl⟩|⟨x,y,g1,g2,rfl,g3⟩
 .rw[g1,g2,zaa,zaa];dsimp only;rw[iu,NK];simp only[zaa];have c:=VW par k x;generalize dP par k x=v at c;by_cases hv:v<0
  .rw[if_pos hv];refine⟨_,rfl,rfl,λ_=>?_⟩;rcases c with h|h|h
   .exact .inl h
   .exact .inr (.inl h)
   omega
  .rw[if_neg hv,bh (by omega) (by rcases c with h|h|h<;>omega),zaa];have:=hm _ (Iaa (l:=L) (n:=v.toNat) (by rcases c with h|h|h<;>omega));exact⟨_,rfl,rfl,λ_=>.inr (.inr ⟨this.1,this.2.1⟩)⟩
 simp_all
def sX(v:GValue):Prop:=v=⟨0,0,0⟩\/Ga v
structure ScopeR (n:Nat) (v:List GValue) (r:List Int):Prop where
 vl:v.length=n
 rl:r.length=n
 vp:∀x∈v,sX x
variable {n:Nat}{r:Int}
theorem mem_set{l:List α}{i:Nat}{x y:α}(h:y∈l.set i x):y=x\/y∈l:=by
 grind
theorem lL(u:ScE s) (he:EnvOk env) (hw:w.length=s.d.length) (m:Int) :
 (∃v r,Ca s env m w=some ((r,vP),{ env with d:=v })/\xj s env m w=some (v,r,vP)/\ScopeR s.d.length v r)\/
 ∃e d,e.Code≠0/\Ca s env m w=some (([],e),d)/\xj s env m w=some ([],[],e):=by
 have hd:=u.ok.defs;unfold Ca xj;rw[Zy (by omega) (by omega),Zy (by omega) (by omega),zaa,zaa,zaa,zaa,rn u.ok,Tz u.ok,zaa,zaa];obtain⟨j,t⟩:=tK (Sj s);rw[fm]at j t;generalize Qu (Sj s)=ord at j t⊢;have z:=oF (s1:=cc s env m w ord) (s2:=Zo s env m w ord)
  (λx y=>x=y/\∃i:Nat,i<=ord.1.length/\x.2.2=(i:Int)/\ScopeR s.d.length x.1 x.2.1) (λx=>(ord.1.length-x.2.2).toNat)
  (λx y=>x=y/\ScopeR s.d.length x.1 x.2) (λx y=>∃e d,x=(([],e),d)/\y=([],[],e)/\e.Code≠0) (by
   rintro⟨a,b,c⟩ y ⟨rfl,i,i1,G,A,B,C⟩;dsimp only at G A B C;subst G;unfold cc Zo;dsimp only;by_cases hi:i<ord.1.length
   case neg=>
    rw[if_neg (by omega),if_neg (by omega)];exact .inr (.inl ⟨_,_,rfl,rfl,rfl,A,B,C⟩)
   have hx:=j _ (Iaa hi);rw[if_pos (by omega),if_pos (by omega),ya hi];simp only[zaa];generalize ord.1[i]=x at hx⊢;rw[bh (l:=w) hx.1 (by omega)];simp only[zaa];by_cases f:w[x.toNat]'(by omega)=false
   .rw[if_pos f,if_pos f];simp only[zaa];rw[sa (by omega)];exact .inl ⟨_,_,rfl,rfl,⟨rfl,i+1,by omega,rfl,A,B,C⟩,by grind⟩
   rw[if_neg f,if_neg f];have o:EnvOk (GEnv.mk env.ae env.u a env.r env.al env.Tables):=⟨he.tabs,he.mem⟩;obtain⟨p,H,I,J⟩:=VP u o m x;unfold Pw;rw[H,I];simp only[zaa];by_cases hc:p.2.Code=0
   case neg=>
    simp_all
   rw[if_neg (Haa.2 hc),if_neg (Haa.2 hc)];by_cases D:p.1 = -1
   .simp_all
   rw[if_neg D,if_neg D];by_cases h2:p.1 = -2
   .simp_all
   rw[if_neg h2,if_neg h2];have E:0<=p.1/\p.1<(s.f.length:Int):=by
    rcases J hc with h|h|h
    all_goals omega
   rw[bh E.1 E.2];simp only[zaa];have g:s.f[p.1.toNat]'(by omega)∈s.f:=Iaa _;generalize s.f[p.1.toNat]'(by omega)=r at g;obtain⟨q,q1,K,L⟩:=vM (u.n r g).2 o;rw[q1,K];simp only[zaa];by_cases hq:q.2=0
   case neg=>
    simp_all
   rw[if_neg (Haa.2 hq),if_neg (Haa.2 hq)];simp only[zaa,not_true,if_false];obtain⟨k,rfl⟩:=Saa hx.1;rw[ya (by omega),zaa,aB (by omega),zaa,ya (by omega),zaa,aB (by omega)];simp only[zaa];rw[sa (by omega)];refine .inl ⟨_,_,rfl,rfl,⟨rfl,i+1,by omega,rfl,?_,?_,?_⟩,by grind⟩
   .grind
   .grind
   .intro y F;rcases mem_set F with rfl|F
    .exact .inr (L hq)
    simp_all) ord.1.length (Daa s.d.length ⟨0,0,0⟩,Daa s.d.length 0,0) (Daa s.d.length ⟨0,0,0⟩,Daa s.d.length 0,0) (by simp) ⟨rfl,0,pab _,rfl,by simp,by simp,λx hx=>.inl (sac hx)⟩
 rcases z with⟨x,y,g1,g2,rfl,g3⟩|⟨x,y,g1,g2,e,d,rfl,rfl,g3⟩
 .rw[g1,g2];exact .inl ⟨x.1,x.2,rfl,rfl,g3⟩
 simp_all
theorem w4(u:ScE s) (he:EnvOk env) (m d:Int):∃p,He s env m d=some p/\(p.2.Code=0->VM s.f.length p.1):=by
 have hr:=u.ok.rules;unfold He;rw[Yr hr,zaa];obtain⟨hl1,f,e⟩:=fu (rules:=s.f) (q:=DE d env.ae) s.f.length;have hm:=EF (rules:=s.f) (q:=DE d env.ae) s.f.length;unfold yL;generalize (Se s.f (DE d env.ae) s.f.length).2.1=par at e⊢;generalize (Se s.f (DE d env.ae) s.f.length).1=L at f e hm⊢;generalize L.map (zA s)=k;dsimp only;rw[Zy (by omega) (by omega),zaa];have g:=bW (s:=Qg s env m d (L,par,k))
  (λx=>∃i:Nat,i<=L.length/\x.2=(i:Int)/\x.1.length=L.length) (λx=>(L.length-x.2).toNat)
  (λx=>x.length=L.length) (λx=>x.2.Code≠0) (by
   rintro⟨a,a2⟩ ⟨i,i1,w,y⟩;dsimp only at w y;subst w;unfold Qg;dsimp only;by_cases hi:i<L.length
   case neg=>
    grind
   have hx:=hm _ (Iaa hi);rw[if_pos (by omega),ya hi];simp only[zaa];generalize L[i]=x at hx⊢;rw[bh hx.1 hx.2.1];simp only[zaa];have c:s.f[x.toNat]'(by omega)∈s.f:=Iaa _;generalize s.f[x.toNat]'(by omega)=r at c;have hN:=(u.n r c).1;have step:∀v:Bool,(Aaa (α:=((List Bool)⊕(Ex ((List Bool)×Int) (List Bool) (Int×GEvalError)))) ((idx a (i:Int)).bind λx13=>(put a (i:Int) v).bind λo=>some (Sum.inl o)) λz=>match z with|.inr v=>some v|.inl j=>some (Ex.go (j,(aa .i64 ((i:Int)+1)))))=some (.go (a.set i v,((i+1:Nat):Int))):=by
    intro v;rw[ya (by omega),zaa,aB (by omega),zaa,zaa]
    grind[sa]
   by_cases t:(r.ac.length:Int)=0
   .rw[if_pos t];exact .inl ⟨_,step true,⟨i+1,by omega,rfl,by simp_all⟩,by omega⟩
   .rw[if_neg t];obtain⟨p,A,p3⟩:=Z1 hN he;rw[A,zaa];by_cases hc:p.2=0
    .rw[if_neg (Haa.2 hc)];exact .inl ⟨_,step _,⟨i+1,by omega,rfl,by simp_all⟩,by omega⟩
    simp_all) (x:=(Daa L.length false,0)) ⟨0,pab _,rfl,by simp⟩
 rcases g with⟨x,g1,g2⟩|⟨x,g1,g3⟩
 .rw[g1,zaa];dsimp only;rw[iu];simp only[zaa];have b:=VW par k x;generalize dP par k x=v at b;by_cases hv:v<0
  .rw[if_pos hv];refine⟨_,rfl,λ_=>?_⟩;rcases b with h|h|h
   .exact .inl h
   .exact .inr (.inl h)
   omega
  .rw[if_neg hv,bh (by omega) (by rcases b with h|h|h<;>omega),zaa];have:=hm _ (Iaa (l:=L) (n:=v.toNat) (by rcases b with h|h|h<;>omega));exact⟨_,rfl,λ_=>.inr (.inr ⟨this.1,this.2.1⟩)⟩
 simp_all
theorem UW(u:ScE s) (he:EnvOk env) (hw:w.length=s.d.length) (m:Int) :
 (∃v r,Ca s env m w=some ((r,vP),{ env with d:=v })/\ScopeR s.d.length v r)\/
 ∃e d,e.Code≠0/\Ca s env m w=some (([],e),d):=by
 have hd:=u.ok.defs;unfold Ca;rw[Zy (by omega) (by omega),Zy (by omega) (by omega),zaa,zaa,rn u.ok,zaa];obtain⟨g,o⟩:=tK (Sj s);rw[fm]at g o;generalize Qu (Sj s)=ord at g o⊢;have z:=bW (s:=cc s env m w ord)
  (λx=>∃i:Nat,i<=ord.1.length/\x.2.2=(i:Int)/\ScopeR s.d.length x.1 x.2.1) (λx=>(ord.1.length-x.2.2).toNat)
  (λx=>ScopeR s.d.length x.1 x.2) (λx=>∃e d,x=(([],e),d)/\e.Code≠0) (by
   rintro⟨a,b,c⟩ ⟨i,i1,F,A,B,C⟩;dsimp only at F A B C;subst F;unfold cc;dsimp only;by_cases hi:i<ord.1.length
   case neg=>
    rw[if_neg (by omega)];exact .inr (.inl ⟨_,rfl,A,B,C⟩)
   have hx:=g _ (Iaa hi);rw[if_pos (by omega),ya hi];simp only[zaa];generalize ord.1[i]=x at hx⊢;rw[bh (l:=w) hx.1 (by omega)];simp only[zaa];by_cases t:w[x.toNat]'(by omega)=false
   .rw[if_pos t];simp only[zaa];rw[sa (by omega)];exact .inl ⟨_,rfl,⟨i+1,by omega,rfl,A,B,C⟩,by grind⟩
   rw[if_neg t];have j:EnvOk (GEnv.mk env.ae env.u a env.r env.al env.Tables):=⟨he.tabs,he.mem⟩;obtain⟨p,H,I⟩:=w4 u j m x;rw[H];simp only[zaa];by_cases hc:p.2.Code=0
   case neg=>
    simp_all
   rw[if_neg (Haa.2 hc)];by_cases G:p.1 = -1
   .simp_all
   rw[if_neg G];by_cases h2:p.1 = -2
   .simp_all
   rw[if_neg h2];have D:0<=p.1/\p.1<(s.f.length:Int):=by
    rcases I hc with h|h|h
    all_goals omega
   rw[bh D.1 D.2];simp only[zaa];have f:s.f[p.1.toNat]'(by omega)∈s.f:=Iaa _;generalize s.f[p.1.toNat]'(by omega)=r at f;obtain⟨q,q1,J⟩:=Z1 (u.n r f).2 j;rw[q1];simp only[zaa];by_cases hq:q.2=0
   case neg=>
    simp_all
   rw[if_neg (Haa.2 hq)];obtain⟨k,rfl⟩:=Saa hx.1;rw[ya (by omega),zaa,aB (by omega),zaa,ya (by omega),zaa,aB (by omega)];simp only[zaa];rw[sa (by omega)];refine .inl ⟨_,rfl,⟨i+1,by omega,rfl,?_,?_,?_⟩,by grind⟩
   .grind
   .grind
   .intro y E;rcases mem_set E with rfl|E
    .exact .inr (J hq)
    simp_all) (x:=(Daa s.d.length ⟨0,0,0⟩,Daa s.d.length 0,0)) ⟨0,pab _,rfl,by simp,by simp,λx hx=>.inl (sac hx)⟩
 rcases z with⟨x,g1,g3⟩|⟨x,g1,e,d,rfl,g3⟩
 .rw[g1];exact .inl ⟨x.1,x.2,rfl,g3⟩
 simp_all
theorem az(a:0<=x) (h1:x<(n:Int)):put ((Kaa n).map f) x true=some ((Kaa n).map λk=>f k || decide (x=(k:Int))):=by
 obtain⟨j,rfl⟩:=Saa a;rw[aB (by simp_all)];congr 1;apply iac
 all_goals grind
theorem jv{f:Nat->α}(h0:0<=x) (h1:x<(n:Int)):idx ((Kaa n).map f) x=some (f x.toNat):=by
 grind[bh]
theorem iN{l:List Int}(hl:l.length<=1048576) (hm:∀x∈l,0<=x/\x<(n:Int)) (f:Nat->Bool) 
 (c:∀a b,step (a,b)=if b<(l.length:Int)then(idx l b).bind λx=>(idx a x).bind λ_=>(put a x true).bind λq=>some (.go (q,aa .i64 (b+1)))else some (.brk a)) :
 ca step ((Kaa n).map f,0)=some (.inl ((Kaa n).map λk=>f k || l.contains (k:Int))):=by
 refine kf (λi=>((Kaa n).map (λk=>f k || (l.take i).contains (k:Int)),(i:Int))) l.length _ (λi hi=>?_) ?_ (by simp)
 .have hx:=hm _ (Iaa hi);rw[c,if_pos (by omega),ya hi,zaa,jv hx.1 hx.2,zaa,az hx.1 hx.2,zaa,sa (by omega),Xaa,Baa hi]
  grind
 simp_all
theorem Xz(n:Nat):Daa n false=(Kaa n).map λ_=>false:=by
 apply iac<;>simp
def wB(s:GScope) (d x:Int):Bool:=decide (d=x) || (MC s d s.d.length).contains x
theorem cV:wB s d x=true↔d=x\/Way s d x:=by
 simp_all[wB,yy]
theorem PC(h:Way s d x):0<=x/\x<(s.d.length:Int):=by
 cases h with
 |one h=>exact h.2.1
 |step _ h=>exact h.2.1
def OA(r:GRule):List Int:=lA Hv r.ac++lA Hv r.Value
def Yx(s:GScope) (d:Int):List Int:=Pd ((s.f.filter λ(r:GRule)=>wB s d r.s).flatMap OA)
theorem VJ{l:List GRule}(a:∀r∈l,r.ac.length<=1048576/\r.Value.length<=1048576) {p:GRule->Bool}:((l.filter p).flatMap OA).length<=2097152*l.length:=by
 induction l with
 |nil=>simp
 |cons r l b=>
  have:=b λx hx=>a x (by grind)
  grind[OA,yq]
theorem ky(c:ScOk s) (hd:0<=d/\d<(s.d.length:Int)):Zh s d=some (Yx s d):=by
 have h1:=c.defs;have h2:=c.rules;obtain⟨l,hl,j,f⟩:=pk c d;unfold Fc at hl;rw[if_pos (by omega),zaa,if_neg (by simp_all)]at hl;unfold Zh;rw[if_pos (by omega),zaa,if_neg (by simp_all),Zy (by omega) (by omega),zaa,Xz,jv hd.1 hd.2,zaa,az hd.1 hd.2,zaa]
 cases ha:Gc s with
 |none=>simp_all
 |some g=>
  rw[ha,zaa]at hl;rw[zaa]
  cases hr:qk g d with
  |none=>simp_all
  |some l'=>
   rw[hr,zaa]at hl;obtain rfl:=wab hl;rw[zaa,iN j (λx hx=>PC ((f x).1 hx)) _ (λa b=>by grind[Vr]),zaa];dsimp only;have hw:((Kaa s.d.length).map λ(k:Nat)=>(false || decide (d=(k:Int))) || l'.contains (k:Int))=(Kaa s.d.length).map λ(k:Nat)=>wB s d (k:Int):=by
    apply Aac;intro k _;unfold wB;rw[Bool.false_or];congr 1;rw[Vac,aab,aab,f,yy]
   rw[hw];have m:ca (Ui s ((Kaa s.d.length).map λ(k:Nat)=>wB s d (k:Int))) (([]:List Int),0)=some (.inl ((s.f.filter λ(r:GRule)=>wB s d r.s).flatMap OA)):=by
    refine kf (λi=>(((s.f.take i).filter λ(r:GRule)=>wB s d r.s).flatMap OA,(i:Int))) s.f.length _ (λi hi=>?_) ?_ rfl
    .have hr:=c.g _ (Iaa hi);have hb:=VJ (l:=s.f.take i) (λr hr=>c.g r (uac hr)) (p:=λ(r:GRule)=>wB s d r.s);have h5:(s.f.take i).length<=1048576:=by grind
     have q:=yq (p:=Hv) (e:=s.f[i].ac);have t:=yq (p:=Hv) (e:=s.f[i].Value);unfold Ui;dsimp only;rw[if_pos (by omega),ya hi,zaa,sa (by omega),Xaa,Baa hi];simp only[Pab,uab,uae];generalize s.f[i]=r at hr q t⊢;generalize ((s.f.take i).filter λ(r:GRule)=>wB s d r.s).flatMap OA=acc at hb⊢;have hc:(if¬r.s<0 then if¬(s.d.length:Int)<=r.s then(idx ((Kaa s.d.length).map λ(k:Nat)=>wB s d (k:Int)) r.s).bind λo=>some (!o)else some true else some true)=some (!wB s d r.s):=by
      by_cases g1:0<=r.s
      .by_cases g2:r.s<(s.d.length:Int)
       .rw[if_pos (by omega),if_pos (by omega),jv g1 g2,zaa]
        grind
       .rw[if_pos (by omega),if_neg (by omega)];have:wB s d r.s=false:=by
         rw[←Pac,cV];rintro(h|h)
         .omega
         .have:=PC h;omega
        simp_all
      .rw[if_neg (by omega)];have:wB s d r.s=false:=by
        rw[←Pac,cV];rintro(h|h)
        .omega
        .have:=PC h;omega
       simp_all
     rw[hc,zaa];cases n:wB s d r.s
     .simp[n]
     .rw[if_neg (by simp),Vo (by omega),zaa,Vo (by omega),zaa]
      grind[Ym,OA,uf]
    simp_all[Ui]
   rw[m,zaa];dsimp only;have hb:=VJ (l:=s.f) c.g (p:=λ(r:GRule)=>wB s d r.s);rw[uz (by omega)];rfl
theorem AT(a b:List Int):Pd (a++b)=b.foldl Ak (Pd a):=by grind[Pd]
theorem AD{l a:List Int}:(l.foldl Ak a).length<=a.length+l.length:=by
 induction l generalizing a with
 |nil=>simp
 |cons x l ih=>
  grind[NB]
theorem LQ{l a:List Int}(h:a.length+l.length<=1099511627) {step:List Int×Int->Option (Ex (List Int×Int) (List Int) Unit)}
 (c:∀x b,step (x,b)=if b<(l.length:Int)then(idx l b).bind λy=>(Qf x y).bind λq=>some (.go (q,aa .i64 (b+1)))else some (.brk x)):ca step (a,0)=some (.inl (l.foldl Ak a)):=by
 refine kf (λi=>((l.take i).foldl Ak a,(i:Int))) l.length _ (λi hi=>?_) ?_ rfl
 .have hb:=AD (l:=l.take i) (a:=a);have h2:(l.take i).length<=l.length:=by grind
  rw[c,if_pos (by omega),ya hi,zaa,cu (by omega),zaa,sa (by omega),Xaa,Baa hi]
  grind
 simp_all
theorem oE(g:ScOk s) (hfew:s.f.length<=64) (j:∀r∈s.f,r.ac.length<=1048576/\r.Value.length<=1048576) (hd:0<=d/\d<(s.d.length:Int)):Qm s d=some (Yx s d):=by
 have h1:=g.defs;have h2:=g.rules;have htl:=(Jy s d s.d.length).len;unfold Qm;rw[xA,zaa,if_neg (by simp_all),Jn g,zaa,cu (by omega),zaa];have c:∀x,Us (Ak (MC s d s.d.length) d) x=some (wB s d x):=by
  intro x;have:=NB (l:=MC s d s.d.length) (n:=d);rw[Dy (by omega)];congr 1;rw[Vac,aab,Kz,cV,yy]
  grind
 have hlp:ca (xh s (Ak (MC s d s.d.length) d)) (([]:List Int),0)=some (.inl (Yx s d)):=by
  refine kf (λi=>(Pd (((s.f.take i).filter λ(r:GRule)=>wB s d r.s).flatMap OA),(i:Int))) s.f.length _ (λi hi=>?_) ?_ rfl
  .have hr:=j _ (Iaa hi);have hb:=VJ (l:=s.f.take i) (λr hr=>j r (uac hr)) (p:=λ(r:GRule)=>wB s d r.s);have h5:(s.f.take i).length<=64:=by grind
   have k:=yq (p:=Hv) (e:=s.f[i].ac);have m:=yq (p:=Hv) (e:=s.f[i].Value);have f:=(Gg (((s.f.take i).filter λ(r:GRule)=>wB s d r.s).flatMap OA)).2.1;unfold xh;dsimp only;rw[if_pos (by omega),ya hi,zaa,c,zaa,sa (by omega),Xaa,Baa hi];simp only[Pab,uab,uae];generalize s.f[i]=r at hr k m⊢;generalize ((s.f.take i).filter λ(r:GRule)=>wB s d r.s).flatMap OA=acc at hb f⊢;cases h:wB s d r.s
   .simp[h]
   .rw[if_neg (by simp),An (by omega),zaa,An (by omega),zaa];have e1:=LQ (l:=(Ym r.ac).2.2) (a:=Pd acc) (by grind[Ym]) (step:=Tk (Ym r.ac)) (λa b=>by grind[Tk]);rw[e1,zaa];dsimp only;have h6:=AD (l:=(Ym r.ac).2.2) (a:=Pd acc);have e2:=LQ (l:=(Ym r.Value).2.2) (a:=(Ym r.ac).2.2.foldl Ak (Pd acc)) (by grind[Ym]) (step:=Sk (Ym r.Value)) (λa b=>by grind[Sk])
    simp_all[OA,Ym,AT]
  .unfold xh;dsimp only;rw[if_neg (by omega),tac];rfl
 simp_all
theorem rng{a b c:Int}:(if¬a<b then some (decide (c<a))else some true)=some (decide (a<b) || decide (c<a)):=by
 grind
theorem vN(a b c:Int):Af a b c=some (decide (a<b) || decide (c<a)):=by
 grind[Af]
theorem calStep(c:GCalendar):fc c=Mt c:=by
 funext s;unfold fc Mt;split
 .cases idx c.am s<;>rfl
 .rfl
theorem cal_eq(c:GCalendar):kh c=Rs c:=by
 grind[kh,Rs,calStep]
theorem calEx{c:GCalendar}(h:c.am.length<=1048576):∃b,kh c=some b:=by
 have hs:∀i:Nat,i<c.am.length->fc c (i:Int)=some (.ret false)\/fc c (i:Int)=some (.go (aa .i64 ((i:Int)+1))):=by
  intro i hi;unfold fc;rw[if_pos (by omega),ya hi,zaa];unfold cp;generalize c.am[i]=x;by_cases h1:0<=x
  .by_cases h2:x<=109572
   .by_cases h3:0<i
    .obtain⟨k,rfl⟩:∃k,i=k+1:=⟨i-1,by omega⟩
     grind[wid,ya]
    simp_all
   grind
  grind
 classical
 unfold kh;rw[show(if¬c.aw<0 then if¬126<c.aw then some (decide (64<(c.am.length:Int)))else some true else some true)=some (decide (c.aw<0) || (decide (126<c.aw) || decide (64<(c.am.length:Int)))) by
  grind,zaa]
 split
 .simp
 .rcases IE h (λi=>decide (fc c (i:Int)=some (.ret false))) (step:=fc c) (λi hi=>by
   grind) (by grind[fc])with g|⟨g,-⟩
  all_goals simp_all
theorem Ly{l:GLaw}(h:(cn l).Code=0):cn l=⟨0,0,0,0⟩:=by
 unfold cn at h⊢;split at h
 .grind
 rename_i c;rw[if_neg c];generalize e:ff _ l.q.length=m at h⊢
 cases m with
 |some v=>exact(EC (f:=λi=>match l.q[i]? with|some x=>if(Ug l i x).1=0 then none else some (⟨(Ug l i x).1,1,(i:Int),(Ug l i x).2⟩:GLawError)|none=>none) KT e h).elim
 |none=>
 dsimp only at h⊢;split at h
 .grind
 rename_i h2;rw[if_neg h2];generalize g:ff _ l.Tables.length=n at h⊢
 cases n with
 |some v=>exact(EC (f:=λi=>match l.Tables[i]? with|some x=>if(np l i x).1=0 then none else some (⟨(np l i x).1,2,(i:Int),(np l i x).2⟩:GLawError)|none=>none) UU g h).elim
 |none=>
 dsimp only at h⊢;split at h
 .grind
 rename_i d;rw[if_neg d];generalize hf:ff _ l.e.length=o at h⊢
 cases o with
 |none=>rfl
 |some v=>
  rw[Lab]at h;obtain⟨k,j,a,-⟩:=Pa.1 hf;rw[Baa j]at a;dsimp only at a;split at a
  .grind
  .injection a with a;subst a;rename_i b;exact(b h).elim
theorem eQ{l:GLaw}(a:Valid l) {i k:Nat}(hi:i<l.e.length) (hk:k<l.e[i].d.length):la l.e[i].d[k].ai l.q=true:=by
 have h:=a.s i hi;generalize l.e[i]=x at h hk⊢;unfold Ej at h
 repeat' split at h
 all_goals first|(simp at h;done)|skip
 .rename_i v hv;exact(yD eU hv h).elim
 .rename_i v hv;exact(yD kO hv h).elim
 .rename_i v hv;exact(yD YO hv h).elim
 .rename_i hd _ _;have:=ab.1 hd k hk
  grind[fI,gx]
theorem OX{l:GLaw}(h:LawOk l) {c:GPayConfig}(hc:c.ar.am.length<=1048576) (sc:Int):∃n,Ra l sc c=some n/\Hb l sc c=some n:=by
 have key:Ra l sc c=Hb l sc c/\∃n,Hb l sc c=some n:=by
  unfold Ra Hb Gr;rw[ym h,Uz h];simp only[zaa];by_cases hv:(cn l).Code=0
  .have m:=rC hv;rw[Ly hv];simp only[not_true_eq_false,if_false,and_self,beq_self_eq_true,Raa];obtain⟨b,hb⟩:=calEx hc;have d:Rs c.ar=some b:=by grind[cal_eq]
   by_cases e:sc<0
   .grind
   by_cases h2:(l.e.length:Int)<=sc
   .grind
   by_cases f:c.s<0
   .grind
   obtain⟨i,rfl⟩:∃i:Nat,sc=(i:Int):=⟨sc.toNat,by omega⟩;have hi:i<l.e.length:=by omega
   rw[if_pos e,if_pos h2,if_pos f,ya hi,zaa,zaa];by_cases h4:(l.e[i].d.length:Int)<=c.s
   .grind
   obtain⟨k,hk⟩:∃k:Nat,c.s=(k:Int):=⟨c.s.toNat,by omega⟩;have a:k<l.e[i].d.length:=by omega
   rw[show decide ((l.e[i].d.length:Int)<=c.s)=false by simp_all];have ht:=eQ m hi a;simp only[hk,ya a,zaa,Eaa,if_false];generalize l.e[i].d[k].ai=t at ht⊢;by_cases g:t.a=3
   .have j:t.g=0:=by
     simp_all[la]
    simp only[g,j,and_self,not_true_eq_false,if_false,vN,rng,hb,d,zaa]
    grind
   simp_all
  simp_all
 simp_all
theorem M4{l:GLaw}(h:LawOk l) {c:GPayConfig}(hc:c.ar.am.length<=1048576) (sc:Int):∃n,Ra l sc c=some n:=by
 have key:∃n,Ra l sc c=some n:=by
  unfold Ra;rw[ym h];simp only[zaa];by_cases hv:(cn l).Code=0
  .have s:=rC hv;rw[Ly hv];simp only[not_true_eq_false,if_false,and_self,beq_self_eq_true,Raa];obtain⟨b,hb⟩:=calEx hc;by_cases d:sc<0
   .simp[d]
   by_cases h2:(l.e.length:Int)<=sc
   .simp[d,h2]
   by_cases e:c.s<0
   .simp[d,h2,e]
   obtain⟨i,rfl⟩:∃i:Nat,sc=(i:Int):=⟨sc.toNat,by omega⟩;have hi:i<l.e.length:=by omega
   rw[if_pos d,if_pos h2,if_pos e,ya hi,zaa,zaa];by_cases p:(l.e[i].d.length:Int)<=c.s
   .simp[p]
   obtain⟨k,hk⟩:∃k:Nat,c.s=(k:Int):=⟨c.s.toNat,by omega⟩;have a:k<l.e[i].d.length:=by omega
   rw[show decide ((l.e[i].d.length:Int)<=c.s)=false by simp_all];have ht:=eQ s hi a;simp only[hk,ya a,zaa,Eaa,if_false];generalize l.e[i].d[k].ai=t at ht⊢;by_cases q:t.a=3
   .have r:t.g=0:=by
     simp_all[la]
    simp only[q,r,and_self,not_true_eq_false,if_false,rng,hb,zaa];by_cases g1:c.an<0
    .simp[g1]
    by_cases g2:5<c.an
    .simp_all
    rw[if_pos g1,if_pos g2];simp only[g1,g2,decide_false,Bool.or_self,if_true,zaa];cases b
    .simp
    simp only[Rab,Eaa,if_false];generalize (decide (c.ay<1) || decide (28<c.ay))=f;generalize (decide (c.az<0) || decide (1000000<c.az))=g;generalize (decide (c.a0<0) || decide (1000000000000000<c.a0))=j;generalize (decide (c.a1<0) || decide (3599<c.a1))=m;generalize (decide (c.a2<0) || decide (365<c.a2))=o;cases f<;>cases g<;>cases j<;>cases m<;>cases o<;>simp
   simp_all
  simp_all
 omega
theorem Valid.rule{l:GLaw}(a:Valid l) {i k:Nat}(hi:i<l.e.length) (hk:k<l.e[i].f.length):kC l.e[i] (NF l l.e[i]) k l.e[i].f[k]=0:=by
 have h:=a.s i hi;generalize l.e[i]=x at h hk⊢;unfold Ej at h
 repeat' split at h
 all_goals first|(simp at h;done)|skip
 .rename_i v hv;exact(yD eU hv h).elim
 .rename_i v hv;exact(yD kO hv h).elim
 .rename_i v hv;exact(yD YO hv h).elim
 simp_all[aL,ab]
theorem Valid.few{l:GLaw}(a:Valid l) {i:Nat}(hi:i<l.e.length):Xy l i l.e[i]=false/\l.e[i].u.length<=12/\l.e[i].d.length<=12:=by
 have h:=a.s i hi
 grind[Ej]
theorem zL{s:GSignature}(h:ZF e s t=0):(Ky e s).2.2=0:=by
 grind[ZF]
theorem FR{x:GScope}{s:GSignature}{k:Nat}{r:GRule}(h:kC x s k r=0):(0<r.ac.length->(Ky r.ac s).2.2=0)/\(Ky r.Value s).2.2=0:=by
 unfold kC at h;split at h
 .omega
 split at h
 .omega
 split at h
 .omega
 split at h
 .omega
 split at h
 .omega
 split at h
 .omega
 split at h
 .omega
 split at h
 .omega
 .rename_i h2;refine⟨λhl=>?_,zL h⟩;exact zL (t:=⟨1,0⟩) (Pad λa=>h2 ⟨hl,a⟩)
theorem res_mem{ops:List GType}{s:GSignature}(h:36<=op/\op<=39) {p:GType×Int}(hr:Sa ⟨op,N⟩ ops s=some p) (a:p.2=0):0<=N/\N<(s.ap.length:Int):=by
 rcases Decidable.em (0<=N/\N<(s.ap.length:Int))with hc|hc
 .omega
 exfalso;have hu:=Ia (op:=op) (by omega);have c:Ec op=true:=by grind[Ec]
 unfold Sa ta cg Wb at hr;simp only[hu,c,Na,di,Ez]at hr;by_cases d:N<0
 .rcases(by omega:op=36\/op=37\/op=38\/op=39)with h|h|h|h<;>subst h<;>cases b:s.av<;>simp[b,d]at hr<;>(rw[←hr]at a;simp at a)
 .have e:(s.ap.length:Int)<=N:=by omega
  rcases(by omega:op=36\/op=37\/op=38\/op=39)with h|h|h|h<;>subst h<;>cases b:s.av<;>simp[b,d,e]at hr<;>(rw[←hr]at a;simp at a)
theorem YZ{s:GSignature}(hN:∀n∈e,Kb n) (h:(Ky e s).2.2=0):∀n∈e,Hv n=true->0<=n.N/\n.N<(s.ap.length:Int):=by
 unfold Ky at h;split at h
 case isFalse h2=>simp_all
 rename_i c;have hw:=nH c;have hn:ff (rD e s) e.length=none:=by
  grind[rD,Pa]
 intro n a hm;obtain⟨j,hj,rfl⟩:=Maa a;have ht:=ab.1 hn j hj;obtain⟨-,-,h39⟩:=hw.ar hj;unfold rD at ht;split at ht
 case isFalse=>grind
 rename_i d;have hr:=rK hw hN hj (λi hi=>ab.1 hn i (by omega));rw[bm hj];rw[bm hj]at hm;have b:36<=(Mc e j).Op/\(Mc e j).Op<=39:=by
  grind[Hv]
 have hres:=res_mem (op:=(Mc e j).Op) (N:=(Mc e j).N) b hr d;omega
theorem kL{l:GLaw}(h:LawOk l) {x:GScope}(hx:x∈l.e):ScE x:=by
 obtain⟨-,g2,-,-,-,a⟩:=h.s x hx;exact⟨g2,λr hr=>(a r hr).2.2⟩
theorem bnd4{e:List GEnum}(hk:t.a=4):-1000000000<=(WN t e).1/\(WN t e).2<=1000000000:=by
 have hb:=Jj t e;unfold Cc at hb;rw[Na,zaa]at hb
 grind
theorem Valid.rowsN{l:GLaw}(h:Valid l):∀t∈l.Tables,t.Rows.length<=150/\(t.Value.a=4->RowsN t):=by
 intro t ht;have h64:=h.rows t ht;refine⟨by omega,λhk=>⟨by omega,λr hr=>?_⟩⟩;obtain⟨i,hi,rfl⟩:=Maa ht;have:=h.t i hi;generalize l.Tables[i]=t at *;unfold np at this;split at this
 .omega
 split at this
 .omega
 split at this
 case isFalse h2=>omega
 rename_i h2;unfold Es at h2;rw[if_neg (by omega)]at h2;split at h2
 .omega
 have hn:ff (aH t l.q) t.Rows.length=none:=by
  cases hf:ff (aH t l.q) t.Rows.length with
  |none=>rfl
  |some v=>
   rw[hf]at h2;obtain⟨k,_,h3,_⟩:=Pa.1 hf
   grind[aH]
 obtain⟨k,b,rfl⟩:=Maa hr;have c:=ab.1 hn k b;unfold aH at c;rw[Baa b]at c;dsimp only at c;split at c
 .grind
 rename_i hw;unfold mH at hw;have a:HQ t.Rows[k].N t.Value l.q=true:=by
  simp_all
 unfold HQ at a;simp only[Laa,decide_eq_true_eq]at a;have:=bnd4 (t:=t.Value) (e:=l.q) hk;omega
theorem XE{l:GLaw}(h:Valid l) (ht:env.Tables=l.Tables) (hm:env.r.length<=1048576):EnvOk env:=⟨by rw[ht];exact h.rowsN,hm⟩
def dD(l:GLaw) (x:GScope):GScope:=if h:0<=x.z/\x.z<(l.e.length:Int)then l.e[x.z.toNat]'(by omega)else⟨Gaa #[],0,[],[],[]⟩
theorem MO{l:GLaw}(h:LawOk l) (x:GScope):ScE (dD l x):=by
 unfold dD;split
 .grind[kL]
 .exact⟨⟨by simp,by simp,by simp⟩,by simp⟩
theorem kE{l:GLaw}(hl:LawOk l) (j:Valid l) {i:Nat}(hi:i<l.e.length) :∀m∈Yx l.e[i] d,0<=m/\m<((dD l l.e[i]).d.length:Int):=by
 intro m hm;have hx:=kL hl (Iaa hi);unfold Yx at hm;rw[(Gg _).2.2,List.mem_flatMap]at hm;obtain⟨r,hr,hm⟩:=hm;have hr:=(Bac.1 hr).1;obtain⟨k,hk,rfl⟩:=Maa hr;have ht:=FR (j.rule hi hk);have hn:=hx.n _ (Iaa hk);have a:((NF l l.e[i]).ap.length:Int)=((dD l l.e[i]).d.length:Int):=by
  grind[NF,dD]
 rw[←a];have of:∀e:List GNode,(∀n∈e,Kb n)->(Ky e (NF l l.e[i])).2.2=0->m∈lA Hv e->0<=m/\m<((NF l l.e[i]).ap.length:Int):=by
  intro e c h2 b;unfold lA at b;rw[(Gg _).2.2,pac]at b;obtain⟨n,f,rfl⟩:=b;obtain⟨g,h⟩:=Bac.1 f;exact YZ c h2 n g h
 grind[OA,lA,Pd,tad]
theorem YQ{l:GLaw}(hl:LawOk l) (b:Valid l) {i:Nat}(hi:i<l.e.length) :(Yx l.e[i] d).length<=1048576:=by
 have h1:=QI (a:=Yx l.e[i] d) (lo:=0) (hi:=((dD l l.e[i]).d.length:Int)) (Gg _).1 (kE hl b hi);have:=(MO hl l.e[i]).ok.defs;omega
def RL(f:GFact):Prop:=f.Id<0\/(f.ak < -1\/8<=f.ak)\/(f.aj < -1\/12<=f.aj)\/(f.ak = -1/\f.aj = -1)\/lN f.w=false\/(f.af<0\/109572<f.af)
instance (f:GFact):Decidable (RL f):=by unfold RL;infer_instance
def UN(f:GFact):Prop:=(f.Value.a<1\/6<f.Value.a)\/(f.aj = -1/\¬f.Value.a=1)
instance (f:GFact):Decidable (UN f):=by unfold UN;infer_instance
def aI(f:GFact):Int:=if RL f then 3 else if UN f then 8 else 0
theorem andO[Decidable a] {b:Bool}:(Aaa (α:=Bool) (if a then some b else some false) k)=k (decide a&&b):=by
 grind
theorem orQ{b:Prop} [Decidable a] [Decidable b] :(Aaa (α:=Bool) (if¬a then some (decide b)else some true) k)=k (decide (a\/b)):=by
 grind
theorem iteOr{b:Prop} [Decidable a] [Decidable b] {x y:α}:(if a then x else if b then x else y)=if a\/b then x else y:=by
 grind
theorem bF(f:GFact):ei f=some (aI f):=by
 unfold ei;simp only[orQ,andO,Dz,zaa,decide_eq_true_eq,Laa,beq_iff_eq,bne_iff_ne,ne_eq,iteOr];unfold aI;by_cases a:RL f
 .rw[if_pos a];unfold RL at a;simp_all
 .rw[if_neg a];unfold RL at a;rw[if_neg a];by_cases b:UN f
  .rw[if_pos b];unfold UN at b;simp_all
  .rw[if_neg b];unfold UN at b;simp_all
def ZE(l:List GFact) (i:Nat):Option (Int×Int):=
 match l[i]? with
 |some f=>if¬aI f=0 then some ((i:Int),aI f)else if((l.take i).any λy=>decide (y.Id=f.Id))=true then some ((i:Int),7)else none
 |none=>none
def Ty(l:List GFact):Int×Int:=if 128<(l.length:Int)then(0,4)else(ff (ZE l) l.length).getD (0,0)
theorem go_s{l:List GFact}:∀(rest:List GFact) (i:Nat) (seen:List Int),l.drop i=rest->(∀x,seen.contains x=(l.take i).any λy=>decide (y.Id=x))->Hf (i:Int) seen rest=some ((ff (λj=>ZE l (i+j)) rest.length).getD (0,0))
 |[],i,seen,h,b=>rfl
 |f::rest,i,seen,h,b=>by
  have hi:i<l.length:=by
   grind[Dac]
  have hf:l[i]=f/\l.drop (i+1)=rest:=by
   grind[mab]
  unfold Hf;rw[bF,zaa];simp only[ff,bab,Nat.add_zero];have he:ZE l i=if¬aI f=0 then some ((i:Int),aI f)else if((l.take i).any λy=>decide (y.Id=f.Id))=true then some ((i:Int),7)else none:=by
   grind[ZE]
  rw[he];by_cases a:aI f=0
  case neg=>simp_all
  rw[if_neg (Haa.2 a),if_neg (Haa.2 a),b f.Id];by_cases hd:((l.take i).any λy=>decide (y.Id=f.Id))=true
  .simp_all
  .rw[if_neg hd,if_neg hd];dsimp only;rw[show(i:Int)+1=((i+1:Nat):Int)from rfl,go_s rest (i+1) (f.Id::seen) hf.2 (λx=>by
    grind)]
   grind
theorem xG(l:List GFact):um l=some (Ty l):=by
 unfold um Ty;split
 .rfl
 .have:=go_s (l:=l) l 0 [] (by simp) (λx=>by simp)
  simp_all
theorem pM{l:List GFact}(hl:l.length<=1048576) {i:Nat}(hi:i<l.length):Wv l (i:Int)=some (match ZE l i with|some v=>v.2|none=>0):=by
 have g:ca (iq l (i:Int) l[i]) 0=some (Eb () (ff (λj=>if(l[j]?.any λy=>decide (y.Id=l[i].Id))=true then some 7 else none) i)):=
  xb (λj=>(j:Int)) _ i () (λj hj _=>by
   unfold iq;rw[if_pos (by omega),ya (by omega),Baa (by omega)]
   grind[aD,sa]) (λ_=>by grind[iq])
 unfold Wv ZE;rw[ya hi,zaa,Baa hi];dsimp only;rw[g];generalize hf:l[i]=f;rw[Vz];have hdup:ff (λj=>if(l[j]?.any λy=>decide (y.Id=f.Id))=true then some (7:Int)else none) i=if((l.take i).any λy=>decide (y.Id=f.Id))=true then some 7 else none:=by
  cases k:ff (λj=>if(l[j]?.any λy=>decide (y.Id=f.Id))=true then some (7:Int)else none) i with
  |none=>
   have:((l.take i).any λy=>decide (y.Id=f.Id))=false:=by
    rw[Iae];intro y q;obtain⟨j,hj,rfl⟩:=Maa q
    grind[ab]
   simp_all
  |some v=>
   obtain⟨j,hj,h2,-⟩:=Pa.1 k;split at h2
   .rename_i h;injection h2 with h2;rw[Baa (by omega),rac]at h;have:((l.take i).any λy=>decide (y.Id=f.Id))=true:=by
     rw[List.any_eq_true];exact⟨l[j]'(by omega),by rw[Sad];grind,h⟩
    simp_all
   simp_all
 have hX:((some (lN f.w)).bind λn=>if n=true then if¬f.af<0 then some (decide (109572<f.af))else some true else some true)=some (decide (lN f.w=false\/(f.af<0\/109572<f.af))):=by
  grind
 have hY:(if f.ak=(-1)then if¬f.aj=(-1)then(some (lN f.w)).bind λn=>if n=true then if¬f.af<0 then some (decide (109572<f.af))else some true else some true else some true
  else(some (lN f.w)).bind λm=>if m=true then if¬f.af<0 then some (decide (109572<f.af))else some true else some true)=some (decide ((f.ak = -1/\f.aj = -1)\/lN f.w=false\/(f.af<0\/109572<f.af))):=by
  grind
 have nest:∀{a b c d e z:Prop} [Decidable a] [Decidable b] [Decidable c] [Decidable d] [Decidable e] [Decidable z],(if¬a then if¬b then if¬c then if¬d then if¬e then some (decide z)else some true else some true else some true else some true else some true)=some (decide (a\/b\/c\/d\/e\/z)):=by
  grind
 rw[hY,nest,zaa];have hb3:(f.Id<0\/f.ak < -1\/7<f.ak\/f.aj < -1\/11<f.aj\/(f.ak = -1/\f.aj = -1)\/lN f.w=false\/(f.af<0\/109572<f.af))↔RL f:=by
  unfold RL
  grind
 have hcond2:(if¬f.Value.a<1 then if¬6<f.Value.a then if f.aj=(-1)then some (f.Value.a !=1)else some false else some true else some true)=some (decide (UN f)):=by
  unfold UN;by_cases o:f.Value.a<1
  .grind
  by_cases h2:6<f.Value.a
  .simp_all
  by_cases h:f.aj = -1<;>by_cases p:f.Value.a=1<;>simp[o,h2,h,p]
 grind[aI,Eb]
theorem errF_ne{l:List GFact}{i:Nat}{v:Int×Int}(h:ZE l i=some v):v.1=(i:Int)/\v.2≠0:=by
 unfold ZE at h
 grind
theorem WG{l:List GFact}(hl:l.length<=1048576):dq l=some (Ty l):=by
 unfold dq Ty;by_cases a:128<(l.length:Int)
 .simp_all
 rw[if_neg a,if_neg a];have b:ca (Yk l) 0=some (Eb () (ff (ZE l) l.length)):=
  xb (λi=>(i:Int)) _ l.length () (λi hi _=>by
   unfold Yk;rw[if_pos (by omega),pM hl hi,zaa,sa (by omega)]
   grind[ZE,aD]) (λ_=>by grind[Yk])
 rw[b];cases ff (ZE l) l.length<;>rfl
structure FactsOk (l:List GFact):Prop where
 len:l.length<=128
 c:∀f∈l,aI f=0
 id:∀(i j:Nat) (hi:i<l.length) (hj:j<l.length),i<j->l[i].Id≠l[j].Id
theorem YD{l:List GFact}(h:(Ty l).2=0):FactsOk l:=by
 unfold Ty at h;split at h
 .omega
 have hn:∀i,i<l.length->ZE l i=none:=by
  refine ab.1 ?_
  cases hf:ff (ZE l) l.length with
  |none=>rfl
  |some v=>
   grind[Pa,errF_ne]
 have a:∀i (hi:i<l.length),aI l[i]=0/\((l.take i).any λy=>decide (y.Id=l[i].Id))=false:=by
  grind[ZE]
 refine⟨by omega,λf hf=>?_,λi j hi hj hij=>?_⟩
 .obtain⟨i,hi,rfl⟩:=Maa hf
  simp_all
 .have:=(a j hj).2;rw[Iae]at this;have:=this l[i] (by rw[Sad];grind)
  simp_all
def Vs(m i d r:Int) (f:GFact):Bool:=decide (f.ak=m)&&(decide (f.aj=i)&&(!decide (r<f.af)&&jy f.w d))
def below(g f:GFact):Prop:=g.af<f.af\/(g.af=f.af/\g.Id<=f.Id)
instance (g f:GFact):Decidable (below g f):=by unfold below;infer_instance
theorem kX{l:List GFact}(hl:l.length<=1048576) (m i d r:Int):∃p,Jl l m i d r=some p/\Bs l m i d r=some p/\
 ((p=(⟨0,0,0⟩,false)/\∀f∈l,Vs m i d r f=false)\/∃f∈l,p=(f.Value,true)/\Vs m i d r f=true/\∀g∈l,Vs m i d r g=true->below g f):=by
 have c:∀f:GFact,(if f.ak=m then if f.aj=i then if¬r<f.af then(Lb f.w d).bind λv=>some (!v)else some true else some true else some true)=some (!Vs m i d r f):=by
  grind[Vs,We]
 have n:∀f:GFact,(if f.ak=m then if f.aj=i then if¬r<f.af then(Pf f.w d).bind λv=>some (!v)else some true else some true else some true)=some (!Vs m i d r f):=by
  grind[Vs,Kq]
 have q:∀f g:GFact,Zr f g=some (decide (¬below f g)):=by
  intro f g;unfold Zr below;by_cases h:f.af=g.af
  .simp_all
  .rw[if_pos h];congr 1;grind
 have o:∀f g:GFact,(if¬g.af<f.af then if f.af=g.af then some (decide (g.Id<f.Id))else some false else some true)=some (decide (¬below f g)):=by
  intro f g;unfold below;by_cases h:g.af<f.af
  .rw[if_neg (by omega)];congr 1;grind
  .rw[if_pos h];by_cases h2:f.af=g.af
   .simp_all
   .rw[if_neg h2];grind[decide_eq_false_iff_not]
 have t:=oF (s1:=Kl l m i d r) (s2:=sv l m i d r)
  (λx y=>x=y/\∃j:Nat,j<=l.length/\x.2=(j:Int)/\((x.1 = -1/\∀f∈l.take j,Vs m i d r f=false)\/∃(k:Nat) (hk:k<l.length),x.1=(k:Int)/\Vs m i d r l[k]=true/\∀g∈l.take j,Vs m i d r g=true->below g l[k])) (λx=>(l.length-x.2).toNat)
  (λx y=>x=y/\((x = -1/\∀f∈l,Vs m i d r f=false)\/∃(k:Nat) (hk:k<l.length),x=(k:Int)/\Vs m i d r l[k]=true/\∀g∈l,Vs m i d r g=true->below g l[k])) (λ_ _=>False) (by
   rintro⟨a,b⟩ y ⟨rfl,j,j1,z,u⟩;dsimp only at z u;subst z;unfold Kl sv;dsimp only;by_cases hj:j<l.length
   case neg=>
    grind
   rw[if_pos (by omega),if_pos (by omega),ya hj];simp only[zaa,c,n];have htk:l.take (j+1)=l.take j++[l[j]]:=by simp
   cases B:Vs m i d r l[j]
   .simp only[mac,if_true,zaa];rw[sa (by omega)];refine .inl ⟨_,_,rfl,rfl,⟨rfl,j+1,by omega,rfl,?_⟩,by omega⟩
    grind
   .simp only[Rab,Eaa,if_false];rcases u with⟨e,u⟩|⟨k,hk,e,w,h2⟩
    .subst e;rw[if_neg (by decide)];simp only[zaa,if_true];rw[sa (by omega)];refine .inl ⟨_,_,rfl,rfl,⟨rfl,j+1,by omega,rfl,?_⟩,by omega⟩
     grind
    .subst e;rw[if_pos (by omega),if_pos (by omega),ya hk];simp only[zaa,q,o];by_cases hb:below l[j] l[k]
     .rw[decide_eq_false (p:=¬below l[j] l[k]) (λh=>h hb)];simp only[Eaa,if_false,zaa];rw[sa (by omega)];refine .inl ⟨_,_,rfl,rfl,⟨rfl,j+1,by omega,rfl,.inr ⟨k,hk,rfl,w,λg A s=>?_⟩⟩,by omega⟩
      grind
     .rw[decide_eq_true hb];simp only[if_true,zaa];rw[sa (by omega)];refine .inl ⟨_,_,rfl,rfl,⟨rfl,j+1,by omega,rfl,.inr ⟨j,hj,rfl,B,λg A s=>?_⟩⟩,by omega⟩
      grind) l.length (-1,0) (-1,0) (by omega) ⟨rfl,0,pab _,rfl,.inl ⟨rfl,λf hf=>by simp at hf⟩⟩
 rcases t with⟨x,y,g1,g2,rfl,g3⟩|⟨_,_,_,_,h⟩
 .unfold Jl Bs;rw[g1,g2];simp only[zaa];rcases g3 with⟨e,g3⟩|⟨k,hk,e,w,h2⟩
  .simp_all
  .subst e;rw[if_neg (by omega),ya hk]
   grind
 simp_all
theorem AsOf_p{l:List GFact}(hl:l.length<=1048576) (m i d r:Int):∃p,Jl l m i d r=some p/\
 ((p=(⟨0,0,0⟩,false)/\∀f∈l,Vs m i d r f=false)\/∃f∈l,p=(f.Value,true)/\Vs m i d r f=true/\∀g∈l,Vs m i d r g=true->below g f):=by
 have n:∀f:GFact,(if f.ak=m then if f.aj=i then if¬r<f.af then(Lb f.w d).bind λA=>some (!A)else some true else some true else some true)=some (!Vs m i d r f):=by
  grind[Vs,We]
 have s:∀f g:GFact,Zr f g=some (decide (¬below f g)):=by
  intro f g;unfold Zr below;by_cases h:f.af=g.af
  .simp_all
  .rw[if_pos h];congr 1;grind
 have t:=oF (s1:=Kl l m i d r) (s2:=Kl l m i d r)
  (λx y=>x=y/\∃j:Nat,j<=l.length/\x.2=(j:Int)/\((x.1 = -1/\∀f∈l.take j,Vs m i d r f=false)\/∃(k:Nat) (hk:k<l.length),x.1=(k:Int)/\Vs m i d r l[k]=true/\∀g∈l.take j,Vs m i d r g=true->below g l[k])) (λx=>(l.length-x.2).toNat)
  (λx y=>x=y/\((x = -1/\∀f∈l,Vs m i d r f=false)\/∃(k:Nat) (hk:k<l.length),x=(k:Int)/\Vs m i d r l[k]=true/\∀g∈l,Vs m i d r g=true->below g l[k])) (λ_ _=>False) (by
   rintro⟨a,b⟩ y ⟨rfl,j,j1,z,u⟩;dsimp only at z u;subst z;unfold Kl;dsimp only;by_cases hj:j<l.length
   case neg=>
    grind
   rw[if_pos (by omega),ya hj];simp only[zaa,n];have q:l.take (j+1)=l.take j++[l[j]]:=by simp
   cases w:Vs m i d r l[j]
   .simp only[mac,if_true,zaa];rw[sa (by omega)];refine .inl ⟨_,_,rfl,rfl,⟨rfl,j+1,by omega,rfl,?_⟩,by omega⟩
    grind
   .simp only[Rab,Eaa,if_false];rcases u with⟨e,u⟩|⟨k,hk,e,v,h2⟩
    .subst e;rw[if_neg (by decide)];simp only[zaa,if_true];rw[sa (by omega)];refine .inl ⟨_,_,rfl,rfl,⟨rfl,j+1,by omega,rfl,?_⟩,by omega⟩;refine .inr ⟨j,hj,rfl,w,λg c o=>?_⟩;rw[q]at c;rcases tab.1 c with c|c
     .simp_all
     .rw[Nab]at c;rw[c];exact .inr ⟨rfl,Qae _⟩
    .subst e;rw[if_pos (by omega),ya hk];simp only[zaa,s];by_cases hb:below l[j] l[k]
     .rw[decide_eq_false (p:=¬below l[j] l[k]) (λh=>h hb)];simp only[Eaa,if_false,zaa];rw[sa (by omega)];refine .inl ⟨_,_,rfl,rfl,⟨rfl,j+1,by omega,rfl,.inr ⟨k,hk,rfl,v,λg c o=>?_⟩⟩,by omega⟩
      grind
     .rw[decide_eq_true hb];simp only[if_true,zaa];rw[sa (by omega)];refine .inl ⟨_,_,rfl,rfl,⟨rfl,j+1,by omega,rfl,.inr ⟨j,hj,rfl,w,λg c o=>?_⟩⟩,by omega⟩;rw[q]at c;rcases tab.1 c with c|c
      .have:=h2 g c o;unfold below at this hb⊢;omega
      .rw[Nab]at c;rw[c];exact .inr ⟨rfl,Qae _⟩) l.length (-1,0) (-1,0) (by omega) ⟨rfl,0,pab _,rfl,.inl ⟨rfl,λf hf=>by simp at hf⟩⟩
 rcases t with⟨x,y,g1,g2,rfl,g3⟩|⟨_,_,_,_,h⟩
 .unfold Jl;rw[g1];simp only[zaa];rcases g3 with⟨e,g3⟩|⟨k,hk,e,v,h2⟩
  .simp_all
  .subst e;rw[if_neg (by omega),ya hk]
   grind
 simp_all
theorem zE{l:List GField}(hl:l.length<=1048576) {step:List GType×Int->Option (Ex (List GType×Int) (List GType) Unit)}
 (c:∀a b,step (a,b)=if b<(l.length:Int)then(idx l b).bind λd=>(app 16 a ([d.ai])).bind λe=>some (Ex.go (e,(aa .i64 (b+1))))else some (Ex.brk a)):ca step (([]:List GType),0)=some (.inl (l.map (·.ai))):=by
 refine kf (λi=>((l.take i).map (·.ai),(i:Int))) l.length _ (λi hi=>?_) ?_ rfl
 .have h2:(l.take i).length<=l.length:=by grind
  rw[c,if_pos (by omega),ya hi,zaa,uf (by grind),zaa,sa (by omega),Xaa,Baa hi]
  grind
 simp_all
theorem fM{l:GLaw}{i:Nat}(hi:i<l.e.length):ie l (i:Int)=some (dD l l.e[i]):=by
 unfold ie dD;rw[ya hi,zaa];generalize l.e[i]=x;rw[kR];by_cases h:0<=x.z/\x.z<(l.e.length:Int)
 .simp_all[if_neg,bh]
 grind
def LA(s:GScope) (d:Int):List Bool:=(Kaa s.d.length).map λ(k:Nat)=>wB s d (k:Int)
def Iz(ms:GScope) (l:List Int):List Bool:=(Kaa ms.d.length).map λ(k:Nat)=>l.any λm=>wB ms m (k:Int)
theorem OB(c:ScOk s) (hd:0<=d/\d<(s.d.length:Int)) {l:List Int}(hl:l.length<=1048576) (hm:∀x,x∈l↔Way s d x) 
 (c:∀a b,step (a,b)=if b<(l.length:Int)then(idx l b).bind λx=>(idx a x).bind λ_=>(put a x true).bind λq=>some (.go (q,aa .i64 (b+1)))else some (.brk a)) :
 (idx ((Kaa s.d.length).map f) d).isSome=true/\∃q,put ((Kaa s.d.length).map f) d true=some q/\ca step (q,0)=some (.inl ((Kaa s.d.length).map λ(k:Nat)=>f k || wB s d (k:Int))):=by
 refine⟨by grind[jv],_,az hd.1 hd.2,?_⟩;rw[iN hl (λx hx=>PC ((hm x).1 hx)) _ c];congr 2;apply Aac;intro k _;rw[Bool.or_assoc];congr 1;unfold wB;congr 1;rw[Vac,aab,aab,hm,yy]
theorem Gv{l:List α}{i:Int}(h:(idx l i).isSome=true):∃x,idx l i=some x:=Option.isSome_iff_exists.1 h
theorem I10_p(c:ScOk s) (hd:0<=d/\d<(s.d.length:Int)) :Kg s.j s.z s.u s.d s.f ((Kaa s.d.length).map f) d=some ((Kaa s.d.length).map λ(k:Nat)=>f k || wB s d (k:Int)):=by
 obtain⟨l,h1,h2,e⟩:=pk c d;obtain⟨m1,q,m2,m3⟩:=OB c hd (f:=f) h2 e (step:=tn l) (λa b=>by grind[tn]);obtain⟨x,hx⟩:=Gv m1
 grind[Kg,Fc]
theorem I10_r(c:ScOk s) (hd:0<=d/\d<(s.d.length:Int)) :Rf ((Kaa s.d.length).map f) s d=some ((Kaa s.d.length).map λ(k:Nat)=>f k || wB s d (k:Int)):=by
 have hl:=(Jy s d s.d.length).len;have hdf:=c.defs;obtain⟨m1,q,m2,m3⟩:=OB c hd (f:=f) (l:=MC s d s.d.length) (by omega) (λx=>yy) (step:=Li (MC s d s.d.length)) (λa b=>by grind[Li]);obtain⟨x,hx⟩:=Gv m1
 grind[Rf,Jn]
theorem fE{l:List Int}(hl:l.length<=1048576) (hm:∀m∈l,0<=m/\m<(ms.d.length:Int)) {g:List Bool->Int->Option (List Bool)}
 (c:∀f:Nat->Bool,∀m∈l,g ((Kaa ms.d.length).map f) m=some ((Kaa ms.d.length).map λ(k:Nat)=>f k || wB ms m (k:Int)))
 (d:∀a b,step (a,b)=if b<(l.length:Int)then(idx l b).bind λx=>(g a x).bind λq=>some (.go (q,aa .i64 (b+1)))else some (.brk a)):ca step (Daa ms.d.length false,0)=some (.inl (Iz ms l)):=by
 refine kf (λi=>(Iz ms (l.take i),(i:Int))) l.length _ (λi hi=>?_) ?_ (by simp[Iz,Xz])
 .rw[d,if_pos (by omega),ya hi,zaa];unfold Iz;rw[c _ _ (Iaa hi),zaa,sa (by omega),Xaa,Baa hi]
  grind
 simp_all
theorem OL{l:GLaw}(hl:LawOk l) (C:Valid l) (E:∀x∈l.e,x.f.length<=64) {i:Nat}(hi:i<l.e.length) (hd:0<=d/\d<(l.e[i].d.length:Int)) {c:GCase}(hc:c.r.length<=1048576)
 (N:Pb l (i:Int) c true d=some vP):∃p,bc l (i:Int) c d=some p/\Sg l (i:Int) c d=some p/\(p.2.2.Code=0->sX p.1):=by
 have hx:=kL hl (Iaa hi);have k:=MO hl l.e[i];have o:=kE hl C hi (d:=d);have F:=YQ hl C hi (d:=d);have J:=E _ (Iaa hi);have s:=fM hi;unfold bc Sg;rw[N,zaa,if_neg (by simp[vP]),ya hi,zaa,s];have I:Ph l (i:Int)=some (l.e[i].j,l.e[i].z,l.e[i].u,l.e[i].d,l.e[i].f,(dD l l.e[i]).j,(dD l l.e[i]).z,(dD l l.e[i]).u,(dD l l.e[i]).d,(dD l l.e[i]).f,Daa l.e[i].d.length false,Daa (dD l l.e[i]).d.length false):=by
  have hb:=(C.few hi).1;have D:=hx.ok.defs;have h:=k.ok.defs;unfold Ph;rw[ya hi,zaa];generalize l.e[i]=x at hb D h⊢;rw[Zy (by omega) (by omega),zaa];by_cases H:0<=x.z
  .have u:x.z<(l.e.length:Int):=by
    grind[Xy]
   unfold dD at h⊢;rw[dif_pos ⟨H,u⟩]at h⊢;rw[if_pos H,bh H u,zaa,Zy (by omega) (by omega)];rfl
  grind[dD]
 rw[I,zaa];dsimp only;generalize dD l l.e[i]=ms at k o s⊢;generalize hxx:l.e[i]=x at *;have D:=hx.ok.defs;have h:=k.ok.defs;rw[Zy (n:=x.d.length) (by omega) (by omega)];simp only[zaa];rw[Zy (n:=ms.d.length) (by omega) (by omega)];simp only[zaa];have A:Lg d x.j x.z x.u x.d x.f ms.j ms.z ms.u ms.d ms.f (Daa x.d.length false) (Daa ms.d.length false)=some (LA x d,Iz ms (Yx x d)):=by
  obtain⟨lt,U,h2,V⟩:=pk hx.ok d;obtain⟨m1,q,m2,m3⟩:=OB hx.ok hd (f:=λ_=>false) h2 V (step:=Ng lt) (λa b=>by grind[Ng]);obtain⟨y,O⟩:=Gv m1;unfold Lg;rw[Xz,O,zaa,m2,zaa,show Fc ⟨x.j,x.z,x.u,x.d,x.f⟩ d=some lt from U,zaa,m3,zaa];dsimp only;rw[show Zh ⟨x.j,x.z,x.u,x.d,x.f⟩ d=some (Yx x d)from ky hx.ok hd,zaa];rw[fE (ms:=ms) (l:=Yx x d) F o (g:=λa m=>Kg ms.j ms.z ms.u ms.d ms.f a m) (λf m hm=>I10_p k.ok (o m hm)) (step:=Mg ms.j ms.z ms.u ms.d ms.f (Yx x d)) (λa b=>by grind[Mg])]
  simp_all[LA]
 have B:Oj d x (Daa x.d.length false)=some (LA x d):=by
  have u:=(Jy x d x.d.length).len;obtain⟨m1,q,m2,m3⟩:=OB hx.ok hd (f:=λ_=>false) (l:=MC x d x.d.length) (by omega) (λy=>yy) (step:=Pj (MC x d x.d.length)) (λa b=>by grind[Pj]);obtain⟨y,O⟩:=Gv m1;unfold Oj;rw[Xz,O,zaa,m2,zaa,Jn hx.ok,zaa,m3]
  simp_all[LA]
 have t:Ki l (i:Int) d x (Daa ms.d.length false)=some (Iz ms (Yx x d)):=by
  unfold Ki;rw[oE hx.ok J hx.ok.g hd,zaa];rw[fE (ms:=ms) (l:=Yx x d) F o (g:=λa m=>Rf a ms m) (λf m hm=>I10_r k.ok (o m hm)) (step:=Mi l (i:Int) (Yx x d)) (λa b=>by grind[Mi])];rfl
 rw[A,B,t];simp only[zaa];have L:(LA x d).length=x.d.length:=by simp[LA]
 have M:(Iz ms (Yx x d)).length=ms.d.length:=by simp[Iz]
 generalize LA x d=w at L⊢;generalize Iz ms (Yx x d)=wm at M⊢;unfold eg Qj;dsimp only;rw[zE (l:=ms.d) h (step:=Pg ⟨⟨x.j,x.z,x.u,x.d,x.f⟩,⟨ms.j,ms.z,ms.u,ms.d,ms.f⟩,w,wm⟩) (λa b=>by grind[Pg]),zaa,s,zaa];dsimp only;have K:=oF (s1:=Og l c ⟨⟨x.j,x.z,x.u,x.d,x.f⟩,⟨ms.j,ms.z,ms.u,ms.d,ms.f⟩,w,wm⟩) (s2:=gh l c wm ms)
  (λa b=>∃j:Nat,j<=c.r.length/\a.2.2=(j:Int)/\b.2.2=(j:Int)/\a.1=b.1/\a.1.length=j/\a.2.1.length=j/\b.2.1.length=j) (λa=>(c.r.length-a.2.2).toNat)
  (λa b=>a.1=b.1/\a.1.length=c.r.length) (λa b=>∃e:GEvalError,e.Code≠0/\a=(⟨[],[],[]⟩,⟨0,[],[],[],[],[]⟩,e)/\b=([],[],e)) (by
   rintro⟨a1,a2,a3⟩ ⟨S,T,b3⟩ ⟨j,j1,P,Q,R,W,X,Y⟩;dsimp only at P Q R W X Y;subst P;subst Q;subst R;unfold Og gh;dsimp only;by_cases hj:j<c.r.length
   case neg=>
    rw[if_neg (by omega),if_neg (by omega)]
    grind
   rw[if_pos (by omega),if_pos (by omega)];unfold Rr;rw[ya hj];simp only[zaa];have he:EnvOk (GEnv.mk c.ae c.r[j] [] [] [] l.Tables):=XE C rfl (by simp);rcases lL k he (w:=wm) (by omega) (j:Int)with⟨v,r,s1,s2,G⟩|⟨e,z,s0,s1,s2⟩
   .rw[show Ca ⟨ms.j,ms.z,ms.u,ms.d,ms.f⟩ _ _ _=_ from s1,s2];simp only[zaa,vP,not_true,if_false];rw[uf (by grind),zaa,uf (by grind),zaa,uf (by grind),zaa,sa (by omega)];exact .inl ⟨_,_,rfl,rfl,⟨j+1,by omega,rfl,rfl,rfl,by simp_all,by simp_all,by simp_all⟩,by grind⟩
   simp_all) c.r.length (([]:List (List GValue)),([]:List GMemberResult),0) (([]:List (List GValue)),([]:List (List Int)),0) (by simp) ⟨0,pab _,rfl,rfl,rfl,rfl,rfl,rfl⟩
 rcases K with⟨⟨a1,a2⟩,⟨S,T⟩,g1,g2,g3,g4⟩|⟨a,b,g1,g2,e,e0,rfl,rfl⟩
 .dsimp only at g3 g4;subst g3;rw[g1,g2];simp only[zaa,not_true,if_false];unfold IC;rw[s,zaa,zE (l:=ms.d) h (step:=Ow ms) (λa b=>by grind[Ow])];simp only[zaa];have he:EnvOk (GEnv.mk c.ae c.u [] a1 (ms.d.map (·.ai)) l.Tables):=XE C rfl (by simp_all);rcases lL hx he (w:=w) (by omega) (-1)with⟨v,r,s1,s2,G⟩|⟨e,z,s0,s1,s2⟩
  .rw[show Ca ⟨x.j,x.z,x.u,x.d,x.f⟩ _ _ _=_ from s1,s2];simp only[zaa,vP,not_true,if_false];rw[bh hd.1 (by have:=G.vl;omega),bh hd.1 (by have:=G.rl;omega)];exact⟨_,rfl,rfl,λ_=>G.vp _ (Iaa _)⟩
  simp_all
 simp_all
noncomputable def pW(l:GLaw) (i:Nat) (hi:i<l.e.length) (d:Int):GInterp_needs:=
 ⟨⟨l.e[i].j,l.e[i].z,l.e[i].u,l.e[i].d,l.e[i].f⟩,⟨(dD l l.e[i]).j,(dD l l.e[i]).z,(dD l l.e[i]).u,(dD l l.e[i]).d,(dD l l.e[i]).f⟩,LA l.e[i] d,Iz (dD l l.e[i]) (Yx l.e[i] d)⟩
theorem dJ{l:GLaw}(hl:LawOk l) (t:Valid l) (o:∀x∈l.e,x.f.length<=64) {i:Nat}(hi:i<l.e.length) (hd:0<=d/\d<(l.e[i].d.length:Int)) {c:GCase}
 (v:Pb l (i:Int) c true d=some vP):bc l (i:Int) c d=(eg l (i:Int) c (pW l i hi d)).bind λj=>
 if¬j.2.2.Code=0 then
  some ((GValue.mk 0 0 0),0,j.2.2)
 else
 (idx j.1.a3 d).bind λw=>
 (idx j.1.f d).bind λz=>
 some (w,z,(GEvalError.mk 0 0 0 0)):=by
 have hx:=kL hl (Iaa hi);have h:=MO hl l.e[i];have k:=kE hl t hi (d:=d);have u:=YQ hl t hi (d:=d);have hfx:=o _ (Iaa hi);unfold bc pW;rw[v,zaa,if_neg (by simp[vP])];have s:Ph l (i:Int)=some (l.e[i].j,l.e[i].z,l.e[i].u,l.e[i].d,l.e[i].f,(dD l l.e[i]).j,(dD l l.e[i]).z,(dD l l.e[i]).u,(dD l l.e[i]).d,(dD l l.e[i]).f,Daa l.e[i].d.length false,Daa (dD l l.e[i]).d.length false):=by
  have hb:=(t.few hi).1;have n:=hx.ok.defs;have e:=h.ok.defs;unfold Ph;rw[ya hi,zaa];generalize l.e[i]=x at hb n e⊢;rw[Zy (by omega) (by omega),zaa];by_cases r:0<=x.z
  .have p:x.z<(l.e.length:Int):=by
    grind[Xy]
   unfold dD at e⊢;rw[dif_pos ⟨r,p⟩]at e⊢;rw[if_pos r,bh r p,zaa,Zy (by omega) (by omega)];rfl
  grind[dD]
 rw[s,zaa];dsimp only;generalize dD l l.e[i]=ms at h k⊢;generalize hxx:l.e[i]=x at *;have n:=hx.ok.defs;have e:=h.ok.defs;have hI11:Lg d x.j x.z x.u x.d x.f ms.j ms.z ms.u ms.d ms.f (Daa x.d.length false) (Daa ms.d.length false)=some (LA x d,Iz ms (Yx x d)):=by
  obtain⟨lt,A,h2,B⟩:=pk hx.ok d;obtain⟨m1,q,m2,m3⟩:=OB hx.ok hd (f:=λ_=>false) h2 B (step:=Ng lt) (λa b=>by grind[Ng]);obtain⟨y,C⟩:=Gv m1;unfold Lg;rw[Xz,C,zaa,m2,zaa,show Fc ⟨x.j,x.z,x.u,x.d,x.f⟩ d=some lt from A,zaa,m3,zaa];dsimp only;rw[show Zh ⟨x.j,x.z,x.u,x.d,x.f⟩ d=some (Yx x d)from ky hx.ok hd,zaa];rw[fE (ms:=ms) (l:=Yx x d) u k (g:=λa m=>Kg ms.j ms.z ms.u ms.d ms.f a m) (λf m hm=>I10_p h.ok (k m hm)) (step:=Mg ms.j ms.z ms.u ms.d ms.f (Yx x d)) (λa b=>by grind[Mg])]
  simp_all[LA]
 simp_all
theorem XT{l:GLaw}(k:Valid l) {x:GScope}(hx:ScE x) (f:ScE ms) {c:GCase}(hc:c.r.length<=1048576) {wm:List Bool}(hmk:w.length=x.d.length) (hmm:wm.length=ms.d.length) (i:Int) :
 ∃p,eg l i c ⟨⟨x.j,x.z,x.u,x.d,x.f⟩,⟨ms.j,ms.z,ms.u,ms.d,ms.f⟩,w,wm⟩=some p/\(p.2.2.Code=0->ScopeR x.d.length p.1.a3 p.1.f/\EnvOk p.2.1):=by
 have g:=f.ok.defs;unfold eg;dsimp only;rw[zE (l:=ms.d) g (step:=Pg ⟨⟨x.j,x.z,x.u,x.d,x.f⟩,⟨ms.j,ms.z,ms.u,ms.d,ms.f⟩,w,wm⟩) (λa b=>by grind[Pg]),zaa];dsimp only;have h:=bW (s:=Og l c ⟨⟨x.j,x.z,x.u,x.d,x.f⟩,⟨ms.j,ms.z,ms.u,ms.d,ms.f⟩,w,wm⟩)
  (λa=>∃j:Nat,j<=c.r.length/\a.2.2=(j:Int)/\a.1.length=j/\a.2.1.length=j) (λa=>(c.r.length-a.2.2).toNat)
  (λa=>a.1.length=c.r.length) (λa=>∃e:GEvalError,e.Code≠0/\a=(⟨[],[],[]⟩,⟨0,[],[],[],[],[]⟩,e)) (by
   rintro⟨a1,a2,a3⟩ ⟨j,j1,m,o,q⟩;dsimp only at m o q;subst m;unfold Og;dsimp only;by_cases hj:j<c.r.length
   case neg=>
    rw[if_neg (by omega)]
    grind
   rw[if_pos (by omega)];rw[ya hj];simp only[zaa];have he:EnvOk (GEnv.mk c.ae c.r[j] [] [] [] l.Tables):=XE k rfl (by simp);rcases UW f he (w:=wm) (by omega) (j:Int)with⟨v,r,s1,n⟩|⟨e,d,s0,s1⟩
   .rw[show Ca ⟨ms.j,ms.z,ms.u,ms.d,ms.f⟩ _ _ _=_ from s1];simp only[zaa,vP,not_true,if_false];rw[uf (by grind),zaa,uf (by grind),zaa,sa (by omega)];exact .inl ⟨_,rfl,⟨j+1,by omega,rfl,by simp_all,by simp_all⟩,by grind⟩
   simp_all) (x:=(([]:List (List GValue)),([]:List GMemberResult),0)) ⟨0,pab _,rfl,rfl,rfl⟩
 rcases h with⟨⟨a1,a2⟩,g1,g4⟩|⟨a,g1,e,e0,rfl⟩
 .dsimp only at g4;rw[g1];simp only[zaa];have he:EnvOk (GEnv.mk c.ae c.u [] a1 (ms.d.map (·.ai)) l.Tables):=XE k rfl (by simp_all);rcases UW hx he (w:=w) (by omega) (-1)with⟨v,r,s1,n⟩|⟨e,d,s0,s1⟩
  .rw[show Ca ⟨x.j,x.z,x.u,x.d,x.f⟩ _ _ _=_ from s1];simp only[zaa,vP,not_true,if_false];exact⟨_,rfl,λ_=>⟨n,he.1,he.2⟩⟩
  simp_all
 simp_all
theorem nX{l:GLaw}(hl:LawOk l) (g:Valid l) (a:∀x∈l.e,x.f.length<=64) {i:Nat}(hi:i<l.e.length) (hd:0<=d/\d<(l.e[i].d.length:Int)) {c:GCase}(hc:c.r.length<=1048576)
 (b:Pb l (i:Int) c true d=some vP):∃p,bc l (i:Int) c d=some p/\(p.2.2.Code=0->sX p.1):=by
 rw[dJ hl g a hi hd b];obtain⟨p,h,j⟩:=XT g (kL hl (Iaa hi)) (MO hl l.e[i]) hc (w:=LA l.e[i] d) (wm:=Iz (dD l l.e[i]) (Yx l.e[i] d)) (by simp[LA]) (by simp[Iz]) (i:Int);unfold pW;rw[h,zaa];by_cases f:p.2.2.Code=0
 case neg=>simp_all
 rw[if_neg (Haa.2 f)];have e:=(j f).1;rw[bh hd.1 (by have:=e.vl;omega),zaa,bh hd.1 (by have:=e.rl;omega)];exact⟨_,rfl,λ_=>e.vp _ (Iaa _)⟩
def Po(l:GLaw) (x:GScope):List GField×Bool:=if h:0<=x.z/\x.z<(l.e.length:Int)then((l.e[x.z.toNat]'(by omega)).u,true)else([],false)
theorem TB{l:GLaw}{i:Nat}(hi:i<l.e.length):Kd l (i:Int)=some (Po l l.e[i]):=by
 unfold Kd Po;rw[ya hi];simp only[zaa,kR];generalize l.e[i]=x;by_cases h:0<=x.z/\x.z<(l.e.length:Int)
 .have hc:decide (x.z<0\/(l.e.length:Int)<=x.z)=false:=by simp_all
  simp_all[bh]
 grind
theorem qx{l:GLaw}{i:Nat}(hi:i<l.e.length):Re l (i:Int)=some (Po l l.e[i]):=by
 unfold Re Po;rw[ya hi];simp only[zaa,kR];generalize l.e[i]=x;by_cases h:0<=x.z/\x.z<(l.e.length:Int)
 .have hc:decide (x.z<0\/(l.e.length:Int)<=x.z)=false:=by simp_all
  simp_all[bh]
 grind
theorem nK{l:GLaw}{i:Nat}(hi:i<l.e.length):sg l (i:Int)=some ((Po l l.e[i]).1,if(Po l l.e[i]).2=true then 8 else 0):=by
 unfold sg Po;rw[ya hi];simp only[zaa,kR];generalize l.e[i]=x;by_cases h:0<=x.z/\x.z<(l.e.length:Int)
 .have hc:decide (x.z<0\/(l.e.length:Int)<=x.z)=false:=by simp_all
  simp_all[bh]
 grind
def N5(l:GLaw) (x:GScope) (f:GFact):Option GType:=
 if f.aj = -1 then some ⟨1,0⟩else if f.aj<0 then none else((if f.ak = -1 then x.u else(Po l x).1)[f.aj.toNat]?).map (·.ai)
noncomputable def tY(l:GLaw) (x:GScope) (members:Int) (f:GFact):Int:=
 if members<=f.ak then 6 else
 match N5 l x f with
 |none=>6
 |some t=>if¬(f.Value.a=t.a/\f.Value.g=t.g)then 8 else if HQ f.Value.N t l.q=false then 3 else 0
noncomputable def n6(l:GLaw) (x:GScope) (h:GHousehold) (i:Nat):Option (Int×Int):=
 match h.aa[i]? with
 |some f=>if¬tY l x h.r f=0 then some ((i:Int),tY l x h.r f)else none
 |none=>none
theorem inO{n lo hi:Int}:(Aaa (α:=Bool) (if¬n<lo then some (decide (hi<n))else some true) k)=k (!(decide (lo<=n)&&decide (n<=hi))):=by
 grind[decide]
theorem typeO{a b c:Int}:(Aaa (α:=Bool) (if a=b then some (c !=d)else some true) k)=k (decide (¬(a=b/\c=d))):=by
 by_cases e:a=b
 .rw[if_pos e,zaa];congr 1
  grind
 simp_all
theorem fac_p{l:GLaw}{h:GHousehold}{i:Nat}(hi:i<l.e.length) (e:h.ah=(i:Int)) (hl:h.aa.length<=128):ca (xg l h (Po l l.e[i])) 0=some (Eb () (ff (n6 l l.e[i] h) h.aa.length)):=
 xb (λj=>(j:Int)) _ h.aa.length () (λj hj _=>by
  unfold xg n6;rw[if_pos (by omega),ya hj,Baa hj,e,ya hi];simp only[zaa];generalize h.aa[j]=f;unfold tY;by_cases c:h.r<=f.ak
  .rw[if_pos c,if_pos c,if_pos (by decide)];rfl
  rw[if_neg c,if_neg c];have d:(if f.ak=(-1)then some l.e[i].u else some (Po l l.e[i]).1)=some (if f.ak = -1 then l.e[i].u else(Po l l.e[i]).1):=by grind
  rw[d,zaa];unfold N5;generalize (if f.ak = -1 then l.e[i].u else(Po l l.e[i]).1)=a;have fin:∀t:GType,(Aaa (α:=Bool) (if f.Value.a=t.a then some (f.Value.g !=t.g)else some true) λg=>if g=true then some (Ex.ret (((j:Nat):Int),(8:Int)):Ex Int Unit (Int×Int))else(Cc (GType.mk t.a t.g) l.q).bind λb=>Aaa (α:=Bool) (if¬f.Value.N<b.1 then some (decide (b.2<f.Value.N))else some true) λk=>if k=true then some (Ex.ret (((j:Nat):Int),3))else some (Ex.go (aa .i64 ((j:Int)+1)))) =
   some (aD (((j+1:Nat):Int)) (if¬(if¬(f.Value.a=t.a/\f.Value.g=t.g)then(8:Int)else if HQ f.Value.N t l.q=false then 3 else 0)=0 then some ((j:Int),(if¬(f.Value.a=t.a/\f.Value.g=t.g)then(8:Int)else if HQ f.Value.N t l.q=false then 3 else 0))else none)):=by
   intro t;rw[typeO,sa (by omega)];by_cases h2:f.Value.a=t.a/\f.Value.g=t.g
   .rw[decide_eq_false (p:=¬(f.Value.a=t.a/\f.Value.g=t.g)) (λh=>h h2),if_neg (by simp),Jj,zaa,inO];simp only[h2,not_true,and_self,if_false];unfold HQ;by_cases m:(decide ((WN t l.q).1<=f.Value.N)&&decide (f.Value.N<=(WN t l.q).2))=true
    all_goals simp_all[aD]
   .rw[decide_eq_true h2,if_pos rfl,if_pos h2,if_pos (by decide)];rfl
  by_cases h2:f.aj = -1
  .rw[if_neg (Haa.2 h2),if_pos h2,zaa];dsimp only;exact fin ⟨1,0⟩
  .rw[if_pos h2,if_neg h2,kR];by_cases m:f.aj<0\/(a.length:Int)<=f.aj
   .rw[decide_eq_true m,if_pos rfl,zaa];dsimp only;have:(if f.aj<0 then none else(a[f.aj.toNat]?).map (·.ai))=none:=by
     grind
    rw[this];dsimp only;rw[if_pos (by decide)];rfl
   simp_all[if_neg,bh]) (λ_=>by grind[xg])
theorem fac_r{l:GLaw}{h:GHousehold}{i:Nat}(hi:i<l.e.length) (d:h.ah=(i:Int)) (hl:h.aa.length<=128) (hm:∀f∈h.aa,-1<=f.ak):ca (il l h) 0=some (Eb () (ff (n6 l l.e[i] h) h.aa.length)):=
 xb (λj=>(j:Int)) _ h.aa.length () (λj hj _=>by
  have c:=hm _ (Iaa hj);have m:xo l h h.aa[j]=some (tY l l.e[i] h.r h.aa[j]):=by
   unfold xo tY;rw[d,ya hi,qx hi];generalize h.aa[j]=f at c;simp only[zaa];by_cases k:h.r<=f.ak
   .simp_all
   rw[if_neg k,if_neg k];have b:(if 0<=f.ak then some (Po l l.e[i]).1 else some l.e[i].u)=some (if f.ak = -1 then l.e[i].u else(Po l l.e[i]).1):=by
    grind
   rw[b,zaa];unfold N5;generalize (if f.ak = -1 then l.e[i].u else(Po l l.e[i]).1)=e;have fin:∀t:GType,((yx f.Value).bind λa=>if¬(a.a=t.a/\a.g=t.g)then some 8 else(Nt f.Value.N (GType.mk t.a t.g) l.q).bind λg=>if g=false then some 3 else some 0)=some (if¬(f.Value.a=t.a/\f.Value.g=t.g)then(8:Int)else if HQ f.Value.N t l.q=false then 3 else 0):=by
    intro t;unfold yx;rw[zaa];dsimp only;by_cases h2:f.Value.a=t.a/\f.Value.g=t.g
    .rw[if_neg (Haa.2 h2),if_neg (Haa.2 h2),FK,zaa];cases HQ f.Value.N t l.q<;>rfl
    simp_all
   by_cases h2:f.aj = -1
   .rw[if_neg (Haa.2 h2),if_pos h2,zaa];dsimp only;exact fin ⟨1,0⟩
   .rw[if_pos h2,if_neg h2,kR];by_cases h3:f.aj<0\/(e.length:Int)<=f.aj
    .grind
    simp_all[if_neg,bh]
  unfold il n6;rw[if_pos (by omega),ya hj,zaa,m,zaa,sa (by omega),Baa hj];dsimp only;split<;>rfl) (λ_=>by grind[il])
noncomputable def o6(l:GLaw) (h:GHousehold):Int×Int:=
 match l.e[h.ah.toNat]? with
 |none=>(-1,6)
 |some x=>if h.ah<0 then(-1,6)else if h.Id<0\/h.r<0\/8<h.r\/(h.r≠0/\(Po l x).2=false)then(-1,3)else
  if¬(Ty h.aa).2=0 then Ty h.aa else(ff (n6 l x h) h.aa.length).getD (0,0)
theorem nest4{b c d:Prop} [Decidable a] [Decidable b] [Decidable c] [Decidable d] {m:Bool}:(Aaa (α:=Bool) (if¬a then if¬b then if¬c then if¬d then some (!m)else some false else some true else some true else some true) k)=k (decide (a\/b\/c\/(¬d/\m=false))):=by
 by_cases a<;>by_cases b<;>by_cases c<;>by_cases d<;>cases m<;>simp[*]
theorem xk(l:GLaw) (h:GHousehold) (hl:l.e.length<=1048576):Jg l h=some (o6 l h):=by
 unfold Jg o6;rw[kR];by_cases hs:h.ah<0\/(l.e.length:Int)<=h.ah
 .grind
 rw[if_neg (by simp_all)];obtain⟨i,hi⟩:=Saa (show 0<=h.ah by omega);have a:i<l.e.length:=by omega
 rw[hi,TB a,zaa,Xab,Baa a];dsimp only;rw[nest4,if_neg (show¬((i:Int)<0) by omega)];by_cases hb:h.Id<0\/h.r<0\/8<h.r\/(¬h.r=0/\(Po l l.e[i]).2=false)
 .simp_all
 rw[if_neg (by simp_all),if_neg hb,xG,zaa];by_cases hf:(Ty h.aa).2=0
 case neg=>simp_all
 rw[if_neg (Haa.2 hf),if_neg (Haa.2 hf),fac_p a hi (YD hf).len,zaa];cases ff (n6 l l.e[i] h) h.aa.length<;>rfl
theorem chk_mem{f:GFact}(h:aI f=0):¬RL f/\¬UN f:=by
 grind[aI]
theorem XG(l:GLaw) (h:GHousehold) (hl:l.e.length<=1048576) (e:h.aa.length<=1048576):jq l h=some (o6 l h):=by
 unfold jq o6;rw[kR];by_cases hs:h.ah<0\/(l.e.length:Int)<=h.ah
 .grind
 rw[if_neg (by simp_all)];obtain⟨i,hi⟩:=Saa (show 0<=h.ah by omega);have a:i<l.e.length:=by omega
 rw[hi,qx a,zaa,Xab,Baa a];dsimp only;rw[nest4,if_neg (show¬((i:Int)<0) by omega)];by_cases hb:h.Id<0\/h.r<0\/8<h.r\/(¬h.r=0/\(Po l l.e[i]).2=false)
 .simp_all
 rw[if_neg (by simp_all),if_neg hb,WG e,zaa];by_cases hf:(Ty h.aa).2=0
 case neg=>simp_all
 have b:=YD hf;rw[if_neg (Haa.2 hf),if_neg (Haa.2 hf),fac_r a hi b.len (λf d=>by
  have:=(chk_mem (b.c f d)).1;unfold RL at this;omega),zaa]
 cases ff (n6 l l.e[i] h) h.aa.length<;>rfl
structure HhOk (l:GLaw) (h:GHousehold) (i:Nat):Prop where
 hi:i<l.e.length
 sc:h.ah=(i:Int)
 m:0<=h.r/\h.r<=8
 ms:h.r≠0->(Po l l.e[i]).2=true
 f:FactsOk h.aa
 t:∀f∈h.aa,f.ak<h.r/\∃t,N5 l l.e[i] f=some t/\f.Value.a=t.a/\f.Value.g=t.g/\HQ f.Value.N t l.q=true
theorem NI{l:GLaw}{h:GHousehold}(hv:(o6 l h).2=0):∃i,HhOk l h i:=by
 unfold o6 at hv
 cases hx:l.e[h.ah.toNat]? with
 |none=>simp_all
 |some x=>
  rw[hx]at hv;dsimp only at hv;split at hv
  .omega
  split at hv
  .omega
  split at hv
  .omega
  rename_i h0 h1 h2;obtain⟨b,rfl⟩:=List.getElem?_eq_some_iff.1 hx;refine⟨h.ah.toNat,b,by omega,by omega,λhm=>?_,YD (Sab.1 h2),λf hf=>?_⟩
  .simp_all
  .have hn:ff (n6 l l.e[h.ah.toNat] h) h.aa.length=none:=by
    cases hff:ff (n6 l l.e[h.ah.toNat] h) h.aa.length with
    |none=>rfl
    |some v=>
     grind[n6,Pa]
   obtain⟨k,hk,rfl⟩:=Maa hf;have:=ab.1 hn k hk;unfold n6 at this;rw[Baa hk]at this;dsimp only at this;split at this
   .cases this
   .rename_i a;have a:=Sab.1 a;unfold tY at a
    grind
noncomputable def gG(l:List GFact) (m i d r:Int):GValue×Bool:=(Jl l m i d r).getD (⟨0,0,0⟩,false)
theorem BM{l:List GFact}(hl:l.length<=1048576) (m i d r:Int):Jl l m i d r=some (gG l m i d r)/\
 ((gG l m i d r=(⟨0,0,0⟩,false)/\∀f∈l,Vs m i d r f=false)\/∃f∈l,gG l m i d r=(f.Value,true)/\Vs m i d r f=true/\∀g∈l,Vs m i d r g=true->below g f):=by
 obtain⟨p,h1,h3⟩:=AsOf_p hl m i d r
 grind[gG]
theorem asS_r{l:List GFact}(hl:l.length<=1048576) (m i d r:Int):Bs l m i d r=some (gG l m i d r):=by
 obtain⟨p,h1,h2,-⟩:=kX hl m i d r
 grind[BM]
noncomputable def sq(l:List GFact) (m:Int) (n:Nat) (d r:Int):List GValue×Bool:=
 if((Kaa n).all λi=>(gG l m (i:Int) d r).2)=true then((Kaa n).map λ(i:Nat)=>(gG l m (i:Int) d r).1,true)else([],false)
theorem cX{l:List GFact}:ff (λi=>if(gG l m (i:Int) d r).2=false then some (([],false):List GValue×Bool)else none) n=if((Kaa n).all λi=>(gG l m (i:Int) d r).2)=true then none else some ([],false):=by
 by_cases h:((Kaa n).all λi=>(gG l m (i:Int) d r).2)=true
 .simp_all[ab]
 .rw[if_neg h]
  cases hf:ff (λi=>if(gG l m (i:Int) d r).2=false then some (([],false):List GValue×Bool)else none) n with
  |none=>
   grind[ab]
  |some v=>
   grind[Pa]
theorem AL{l:List GFact}(hl:l.length<=1048576) (hn:n<=1048576) (m d r:Int):Pe l m (n:Int) d r=some (sq l m n d r):=by
 unfold Pe;rw[Zy (by omega) (by omega),zaa];have a:ca (re l m d r (Daa n ⟨0,0,0⟩)) (Daa n ⟨0,0,0⟩,0)=some (Eb ((Kaa n).map λ(i:Nat)=>(gG l m (i:Int) d r).1) (ff (λi=>if(gG l m (i:Int) d r).2=false then some (([],false):List GValue×Bool)else none) n)):=by
  refine xb (step:=re l m d r (Daa n ⟨0,0,0⟩)) (λt=>(((Kaa n).map λ(i:Nat)=>(gG l m (i:Int) d r).1).take t++Daa (n-t) ⟨0,0,0⟩,(t:Int))) _ n _ (λt ht _=>?_) (λ_=>?_) (by simp)
  .unfold re;dsimp only;rw[if_pos (by simp_all),(BM hl m (t:Int) d r).1,zaa];by_cases h:(gG l m (t:Int) d r).2=false
   .rw[if_pos h,if_pos h];rfl
   .rw[if_neg h,if_neg h,ya (by grind),zaa,aB (by grind),zaa,sa (by omega),tx ht];unfold aD;dsimp only;congr 3;rw[Iac _ _ (by grind),show t-(((Kaa n).map λ(i:Nat)=>(gG l m (i:Int) d r).1).take t).length=0 by grind,show n-t=(n-(t+1))+1 by omega,jab,eac];simp
  simp_all[re,kac]
 rw[a,cX];unfold sq;split<;>rfl
theorem JQ{h:GHousehold}(hl:h.aa.length<=1048576) (hn:fs.length<=1048576) (m d r:Int):Kn h m fs d r=some (sq h.aa m fs.length d r):=by
 unfold Kn;have a:ca (Zj h m fs d r) (([]:List GValue),0)=some (Eb ((Kaa fs.length).map λ(i:Nat)=>(gG h.aa m (i:Int) d r).1) (ff (λi=>if(gG h.aa m (i:Int) d r).2=false then some (([],false):List GValue×Bool)else none) fs.length)):=by
  refine xb (step:=Zj h m fs d r) (λt=>(((Kaa fs.length).map λ(i:Nat)=>(gG h.aa m (i:Int) d r).1).take t,(t:Int))) _ fs.length _ (λt ht _=>?_) (λ_=>?_) (by simp)
  .unfold Zj;dsimp only;rw[if_pos (by omega),asS_r hl m (t:Int) d r,zaa];by_cases h:(gG h.aa m (t:Int) d r).2=false
   .rw[if_pos h,if_pos h];rfl
   .rw[if_neg h,if_neg h,uf (by grind),zaa,sa (by omega),tx ht];rfl
  simp_all[Zj,kac]
 rw[a,cX];unfold sq;split<;>rfl
noncomputable def prS(l:List GFact) (d r:Int) (m:Nat):Bool:=(gG l (m:Int) (-1) d r).2&&(decide ((gG l (m:Int) (-1) d r).1.a=1)&&((gG l (m:Int) (-1) d r).1.N==1))
theorem K7{l:List GFact}{m:Nat}:prS l d r m=((gG l (m:Int) (-1) d r).2&&(decide ((gG l (m:Int) (-1) d r).1.a=1)&&((gG l (m:Int) (-1) d r).1.N==1))):=rfl
noncomputable def Lp(h:GHousehold) (d r:Int):List Int:=((Kaa (min (max h.r 0) 8).toNat).filter (prS h.aa d r)).map λ(m:Nat)=>(m:Int)
theorem BK{v:GValue}{b:Bool}:(Aaa (α:=Bool) (if b=true then if v.a=1 then some (v.N==1)else some false else some false) k)=k (b&&(decide (v.a=1)&&(v.N==1))):=by
 grind
theorem aR{h:GHousehold}(hl:h.aa.length<=1048576) (d r:Int):ui h d r=some (Lp h d r):=by
 obtain⟨n,hn⟩:∃n,(min (max h.r 0) 8).toNat=n:=⟨_,rfl⟩;have hn8:n<=8:=by omega
 have bound:∀t,t<=n->(((Kaa t).filter (prS h.aa d r)).map λ(m:Nat)=>(m:Int)).length<=t:=by
  grind
 have e1:ca (Jf h d r) (([]:List Int),0)=some (.inl (Lp h d r)):=by
  refine kf (λt=>(((Kaa t).filter (prS h.aa d r)).map λ(m:Nat)=>(m:Int),(t:Int))) n _ (λt ht=>?_) ?_ rfl
  .have:=bound t (by omega);unfold Jf;dsimp only;rw[if_pos (by omega),(BM hl (t:Int) (-1) d r).1,zaa,BK,sa (by omega),aad]
   grind[K7,uf]
  grind[Jf,Lp]
 grind[ui]
theorem cR{h:GHousehold}(hl:h.aa.length<=1048576) (d r:Int):wo h d r=some (Lp h d r):=by
 obtain⟨n,hn⟩:∃n,(min (max h.r 0) 8).toNat=n:=⟨_,rfl⟩;have hn8:n<=8:=by omega
 have bound:∀t,t<=n->(((Kaa t).filter (prS h.aa d r)).map λ(m:Nat)=>(m:Int)).length<=t:=by
  grind
 have e2:ca (Aj h d r) (([]:List Int),0)=some (.inl (Lp h d r)):=by
  refine kf (λt=>(((Kaa t).filter (prS h.aa d r)).map λ(m:Nat)=>(m:Int),(t:Int))) n _ (λt ht=>?_) ?_ rfl
  .have:=bound t (by omega);unfold Aj;dsimp only;rw[if_pos (by omega),zaa,if_pos (by grind),asS_r hl (t:Int) (-1) d r,zaa,BK,sa (by omega),aad]
   grind[K7,uf]
  grind[Aj,Lp]
 grind[wo]
noncomputable def Hs(l:GLaw) (x:GScope) (h:GHousehold) (d r:Int):GCase×Int:=
 if d<0\/109572<d then(⟨0,[],[]⟩,3)else
 if(sq h.aa (-1) x.u.length d r).2=false then(⟨0,[],[]⟩,6)else
 if((Lp h d r).all λm=>(sq h.aa m (Po l x).1.length d r).2)=true then(⟨d,(sq h.aa (-1) x.u.length d r).1,(Lp h d r).map λm=>(sq h.aa m (Po l x).1.length d r).1⟩,0)else(⟨0,[],[]⟩,6)
theorem ZQ{L:List Int}(hL:L.length<=1048576) {v:Int->List GValue×Bool}{g:Int->Option (List GValue×Bool)}(d:∀m∈L,g m=some (v m)) {step:List (List GValue)×Int->Option (Ex (List (List GValue)×Int) (List (List GValue)) (GCase×Int))}
 (e:∀a b,step (a,b)=if b<(L.length:Int)then(idx L b).bind λm=>(g m).bind λx=>if x.2=false then some (.ret (⟨0,[],[]⟩,6))else(app 24 a ([x.1])).bind λq=>some (.go (q,aa .i64 (b+1)))else some (.brk a)) :
 ca step (([]:List (List GValue)),0)=some (if(L.all λm=>(v m).2)=true then .inl (L.map λm=>(v m).1)else .inr (⟨0,[],[]⟩,6)):=by
 have c:ca step (([]:List (List GValue)),0)=some (Eb (L.map λm=>(v m).1) (ff (λi=>if(L[i]?.any λm=>!(v m).2)=true then some ((⟨0,[],[]⟩,6):GCase×Int)else none) L.length)):=by
  refine xb (step:=step) (λt=>((L.map λm=>(v m).1).take t,(t:Int))) _ L.length _ (λt ht _=>?_) (λ_=>?_) (by simp)
  .rw[e,if_pos (by omega),ya ht,zaa,d _ (Iaa ht),zaa,Baa ht];simp only[rac];by_cases hv:(v L[t]).2=false
   .grind[aD]
   .rw[if_neg hv,uf (by grind),zaa,sa (by omega),Xaa]
    grind[aD]
  simp_all[kac]
 rw[c];by_cases ha:(L.all λm=>(v m).2)=true
 .rw[if_pos ha,ab.2 (λi hi=>by
   simp_all)]
  rfl
 .rw[if_neg ha]
  cases hf:ff (λi=>if(L[i]?.any λm=>!(v m).2)=true then some ((⟨0,[],[]⟩,6):GCase×Int)else none) L.length with
  |none=>
   exfalso;apply ha;rw[fab];intro m hm;obtain⟨k,hk,rfl⟩:=Maa hm
   grind[ab]
  |some w=>
   obtain⟨k,_,h2,_⟩:=Pa.1 hf;split at h2
   .rw[←h2];rfl
   simp_all
theorem IG(h:GHousehold) (d r:Int):(Lp h d r).length<=8:=by
 grind[Lp]
theorem oK{l:GLaw}(hl:LawOk l) (x:GScope):(Po l x).1.length<=1048576:=by
 unfold Po;split
 .exact(hl.s _ (Iaa _)).2.2.1
 simp
theorem ML{l:GLaw}(hl:LawOk l) {h:GHousehold}(hf:h.aa.length<=1048576) {i:Nat}(hi:i<l.e.length) (f:h.ah=(i:Int)) (d r:Int):Vh l h d r=some (Hs l l.e[i] h d r):=by
 have c:=(hl.s _ (Iaa hi)).2.2.1;have e:=oK hl l.e[i];have hml:=IG h d r;unfold Vh Hs;rw[kR];by_cases hd:d<0\/109572<d
 .simp_all
 rw[if_neg (by simp_all),if_neg hd,f,ya hi,zaa,JQ hf c,zaa];by_cases hv:(sq h.aa (-1) l.e[i].u.length d r).2=false
 .simp_all
 rw[if_neg hv,if_neg hv,qx hi,zaa,cR hf d r,zaa];rw[ZQ (L:=Lp h d r) (by omega) (v:=λm=>sq h.aa m (Po l l.e[i]).1.length d r) (g:=λm=>Kn h m (Po l l.e[i]).1 d r) (λm _=>JQ hf e m d r) (step:=bl h d r (Po l l.e[i]) (Lp h d r)) (λa b=>by grind[bl]),zaa]
 grind
theorem xP{l:GLaw}(hl:LawOk l) (n:(cn l).Code=0) {h:GHousehold}(hv:(o6 l h).2=0) {i:Nat}(hi:i<l.e.length) (k:h.ah=(i:Int)) (d r:Int):Ig l h d r=some (Hs l l.e[i] h d r):=by
 have c:=(hl.s _ (Iaa hi)).2.2.1;have e:=oK hl l.e[i];have hml:=IG h d r;obtain⟨i',j⟩:=NI hv;have hf:h.aa.length<=1048576:=by have:=j.f.len;omega
 unfold Ig Hs;rw[ym hl,zaa,Ly n,if_neg (by simp),xk l h hl.ns,zaa,if_neg (Haa.2 hv),kR];by_cases hd:d<0\/109572<d
 .simp_all
 rw[if_neg (by simp_all),if_neg hd,k,ya hi,zaa,AL hf c,zaa];by_cases hv:(sq h.aa (-1) l.e[i].u.length d r).2=false
 .simp_all
 rw[if_neg hv,if_neg hv,TB hi,zaa,aR hf d r,zaa];rw[ZQ (L:=Lp h d r) (by omega) (v:=λm=>sq h.aa m (Po l l.e[i]).1.length d r) (g:=λm=>Pe h.aa m ((Po l l.e[i]).1.length:Int) d r) (λm _=>AL hf e m d r) (step:=Zl h d r (Po l l.e[i]) (Lp h d r)) (λa b=>by grind[Zl]),zaa]
 grind
def X2(l:GLaw) (fs:List GField) (vs:List GValue):Prop:=vs.length=fs.length/\∀j (h1:j<vs.length) (h2:j<fs.length),vs[j].a=fs[j].ai.a/\vs[j].g=fs[j].ai.g/\HQ vs[j].N fs[j].ai l.q=true
theorem qB{l:GLaw}{vs:List GValue}(hl:fs.length<=1048576) (h:X2 l fs vs):Te l vs fs=some (0,0):=by
 obtain⟨h1,h2⟩:=h;unfold Te;rw[if_neg (by omega),if_neg (by omega)];have:ca (Ue l vs fs) 0=some (.inl ()):=by
  refine kf (λi=>(i:Int)) vs.length _ (λi hi=>?_) ?_ rfl
  .obtain⟨a,b,c⟩:=h2 i hi (by omega);unfold Ue;rw[if_pos (by omega),ya hi,zaa,ya (by omega),zaa,typeO,decide_eq_false (p:=¬(vs[i].a=(fs[i]'(by omega)).ai.a/\vs[i].g=(fs[i]'(by omega)).ai.g)) (λh=>h ⟨a,b⟩),if_neg (by simp),Jj,zaa,inO]
   grind[HQ,sa]
  simp_all[Ue]
 simp_all
theorem dX{l:GLaw}{x:GScope}{h:GHousehold}{i:Nat}(a:HhOk l h i) (hx:l.e[i]'a.hi=x) (hm:fs=if m = -1 then x.u else(Po l x).1) (hv:(sq h.aa m fs.length d r).2=true):X2 l fs (sq h.aa m fs.length d r).1:=by
 unfold sq at hv⊢;split at hv
 case isFalse=>grind
 rename_i ha;rw[if_pos ha];refine⟨by simp,λj b h2=>?_⟩;simp only[dac,List.length_range]at b;simp only[lad,Bae];have hj:=fab.1 ha j (by simp_all);have hf:h.aa.length<=1048576:=by have:=a.f.len;omega
 rcases(BM hf m (j:Int) d r).2 with⟨e,-⟩|⟨f,f1,f2,f3,-⟩
 .simp_all
 .rw[f2];dsimp only;obtain⟨-,t,t1,t2,t3,t4⟩:=a.t f f1;unfold Vs at f3;simp only[Laa,decide_eq_true_eq]at f3;unfold N5 at t1
  simp_all
theorem aO{l:GLaw}(hl:LawOk l) (t:(cn l).Code=0) {h:GHousehold}{i:Nat}(a:HhOk l h i) (hc:(Hs l (l.e[i]'a.hi) h d r).2=0) {def_:Int}(hd:0<=def_/\def_<((l.e[i]'a.hi).d.length:Int)) :
 Pb l (i:Int) (Hs l (l.e[i]'a.hi) h d r).1 true def_=some vP/\(Hs l (l.e[i]'a.hi) h d r).1.r.length<=8:=by
 have hi:=a.hi;have f:=(hl.s _ (Iaa hi)).2.2.1;have k:=oK hl l.e[i];have hml:=IG h d r;have hns:=hl.ns;unfold Hs at hc⊢;split at hc
 .omega
 rename_i q;rw[if_neg q];split at hc
 .omega
 rename_i h2;rw[if_neg h2];split at hc
 case isFalse=>omega
 rename_i o;rw[if_pos o];have h2:(sq h.aa (-1) l.e[i].u.length d r).2=true:=by simp_all
 have u:=dX a rfl (m:=-1) (fs:=l.e[i].u) (by simp) h2;refine⟨?_,by simp_all⟩;unfold Pb;rw[ym hl,zaa,if_neg (Haa.2 t),ya hi,zaa];have b:(if¬(i:Int)<0 then if¬(l.e.length:Int)<=(i:Int)then if true=true then if¬def_<0 then some (decide ((l.e[i].d.length:Int)<=def_))else some true else some false else some true else some true)=some false:=by
  simp_all
 rw[b,zaa,if_neg (by simp)];have e:ik l (i:Int) ⟨d,(sq h.aa (-1) l.e[i].u.length d r).1,(Lp h d r).map λm=>(sq h.aa m (Po l l.e[i]).1.length d r).1⟩=some (0,0,0):=by
  unfold ik;dsimp only;rw[kR,if_neg (by simp_all),kR,if_neg (by simp_all),ya hi,zaa,qB f u,zaa,if_neg (by simp),nK hi,zaa];have c:¬(if(Po l l.e[i]).2=true then(8:Int)else 0)<(((Lp h d r).map λm=>(sq h.aa m (Po l l.e[i]).1.length d r).1).length:Int):=by
   rw[dac];split
   .omega
   .rename_i hb;have hm0:h.r=0:=Pad λp=>hb (a.ms p)
    grind[Lp]
  rw[if_neg c];have hlp:ca (qh l ⟨d,(sq h.aa (-1) l.e[i].u.length d r).1,(Lp h d r).map λm=>(sq h.aa m (Po l l.e[i]).1.length d r).1⟩ ((Po l l.e[i]).1,if(Po l l.e[i]).2=true then 8 else 0)) 0=some (.inl ()):=by
   refine kf (λi=>(i:Int)) (Lp h d r).length _ (λj hj=>?_) ?_ rfl
   .unfold qh;dsimp only;rw[if_pos (by simp_all),ya (by simp_all),zaa];simp only[lad];have g:=Iaa hj;have n:=fab.1 o _ g;have hne:(Lp h d r)[j]≠-1:=by
     grind[Lp]
    rw[qB k (dX a rfl (fs:=(Po l l.e[i]).1) (by simp_all) n),zaa,if_neg (by simp),sa (by omega)]
   simp_all[qh]
  simp_all
 rw[e];rfl
structure ConfOk (l:GLaw) (i:Nat) (c:GPayConfig):Prop where
 v:(cn l).Code=0
 hi:i<l.e.length
 d:0<=c.s/\c.s<((l.e[i]'hi).d.length:Int)
 r:0<=c.an/\c.an<=5
theorem NX{l:GLaw}(h:LawOk l) {c:GPayConfig}(hv:Hb l sc c=some 0):∃i:Nat,sc=(i:Int)/\ConfOk l i c:=by
 unfold Hb Gr at hv;rw[Uz h]at hv;simp only[zaa]at hv;by_cases f:(cn l).Code=0
 case neg=>
  simp_all
 have:((cn l).Code==0)=true:=by simp_all
 rw[this,if_neg (by simp)]at hv;by_cases a:sc<0
 .simp_all
 by_cases h2:(l.e.length:Int)<=sc
 .simp_all
 by_cases b:c.s<0
 .simp_all
 obtain⟨i,rfl⟩:=Saa (show 0<=sc by omega);have hi:i<l.e.length:=by omega
 rw[if_pos a,if_pos h2,if_pos b,ya hi]at hv;simp only[zaa]at hv;by_cases d:(l.e[i].d.length:Int)<=c.s
 .simp_all
 rw[decide_eq_false d,if_neg (by simp),bh (by omega) (by omega)]at hv;simp only[zaa,vN]at hv;split at hv
 .grind
 by_cases e:0<=c.an/\c.an<=5
 .exact⟨i,rfl,f,hi,by omega,e⟩
 simp_all
theorem L4{l:GLaw}(h:LawOk l) {c:GPayConfig}(hv:Ra l sc c=some 0):∃i:Nat,sc=(i:Int)/\ConfOk l i c:=by
 unfold Ra at hv;rw[ym h,zaa]at hv;by_cases a:(cn l).Code=0
 case neg=>simp_all
 rw[Ly a,if_neg (by simp)]at hv;by_cases b:sc<0
 .grind
 by_cases h2:(l.e.length:Int)<=sc
 .grind
 by_cases d:c.s<0
 .grind
 obtain⟨i,rfl⟩:=Saa (show 0<=sc by omega);have hi:i<l.e.length:=by omega
 rw[if_pos b,if_pos h2,if_pos d,ya hi]at hv;simp only[zaa]at hv;by_cases e:(l.e[i].d.length:Int)<=c.s
 .simp_all
 rw[decide_eq_false e,if_neg (by simp),bh (by omega) (by omega)]at hv;simp only[zaa,rng]at hv;split at hv
 .grind
 by_cases f:0<=c.an/\c.an<=5
 .exact⟨i,rfl,a,hi,by omega,f⟩
 grind
noncomputable def kc(l:GLaw) (i:Nat) (h:GHousehold) (def_ rec d:Int):GValue×Int:=
 match l.e[i]? with
 |none=>(⟨0,0,0⟩,1)
 |some x=>
  if¬(Hs l x h d rec).2=0 then(⟨0,0,0⟩,(Hs l x h d rec).2)else
  ((((bc l (i:Int) (Hs l x h d rec).1 def_).getD (⟨0,0,0⟩,0,vP)).1),((bc l (i:Int) (Hs l x h d rec).1 def_).getD (⟨0,0,0⟩,0,vP)).2.2.Code)
structure Ctx (l:GLaw) (h:GHousehold) (c:GPayConfig) (i:Nat):Prop where
 ok:LawOk l
 few:∀x∈l.e,x.f.length<=64
 cf:ConfOk l i c
 hv:(o6 l h).2=0
 sc:h.ah=(i:Int)
variable {l:GLaw}{i:Nat}{c:GPayConfig}{h:GHousehold}
theorem RO(H:Ctx l h c i) (rec d:Int):∃q:GCase×Int,Ig l h d rec=some q/\Vh l h d rec=some q/\
 ((q.2≠0/\kc l i h c.s rec d=(⟨0,0,0⟩,q.2))\/(q.2=0/\∃p,bc l h.ah q.1 c.s=some p/\Sg l h.ah q.1 c.s=some p/\kc l i h c.s rec d=(p.1,p.2.2.Code)/\(p.2.2.Code=0->sX p.1))):=by
 have hi:=H.cf.hi;obtain⟨e,a⟩:=NI H.hv;have b:e=i:=by have:=a.sc;have:=H.sc;omega
 subst b;have hf:h.aa.length<=1048576:=by have:=a.f.len;omega
 refine⟨Hs l l.e[e] h d rec,xP H.ok H.cf.v H.hv hi H.sc d rec,ML H.ok hf hi H.sc d rec,?_⟩;unfold kc;rw[Baa hi];dsimp only;by_cases hc:(Hs l l.e[e] h d rec).2=0
 .right;refine⟨hc,?_⟩;obtain⟨g,k2⟩:=aO H.ok H.cf.v a hc H.cf.d;obtain⟨p,j,k,p3⟩:=OL H.ok (rC H.cf.v) H.few hi H.cf.d (by omega) g;rw[if_neg (Haa.2 hc),H.sc,j,k]
  simp_all
 simp_all
theorem val0_b{v:GValue}(h:sX v):-1000000000000000<=v.N/\v.N<=1000000000000000:=by
 rcases h with h|h
 .simp_all
 .have:=h.range;omega
theorem QO(H:Ctx l h c i) (rec d:Int) (h0:(kc l i h c.s rec d).2=0):-1000000000000000<=(kc l i h c.s rec d).1.N/\(kc l i h c.s rec d).1.N<=1000000000000000:=by
 obtain⟨q,-,-,hq⟩:=RO H rec d;rcases hq with⟨q1,q2⟩|⟨-,p,-,-,p3,p4⟩
 all_goals simp_all[val0_b]
def tv:Int->List GDateRange->Int->Prop
 |a,[],b=>a=b
 |a,p::l,b=>p.n=a/\p.n<p.To/\tv p.To l b
theorem pB{to:Int}:∀{a:Int}{l:List Int},a<to->l.Pairwise (·<·)->(∀x∈l,a<x/\x<to)->tv a (Nv to a l) to
 |a,[],h,_,_=>⟨rfl,h,rfl⟩
 |a,x::l,h,b,hm=>by
  rw[List.pairwise_cons]at b;have hx:=hm x (by simp);exact⟨rfl,hx.1,pB hx.2 b.2 λy c=>⟨b.1 y c,(hm y (by grind)).2⟩⟩
def Tw(v:Int->Int) (l:List GDateRange):Int:=(l.map λp=>v p.n*(p.To-p.n)).sum
def qu(l:List GDateRange):Int:=(l.map λp=>p.To-p.n).sum
theorem Ur:∀{a b:Int}{l:List GDateRange},tv a l b->qu l=b-a/\a<=b
 |a,b,[],h=>by simp only[tv]at h;grind[qu]
 |a,b,p::l,h=>by
  obtain⟨h1,h2,c⟩:=h;obtain⟨h4,h5⟩:=Ur c
  grind[qu]
theorem oH{v:Int->Int}{l:List GDateRange}:Tw v (l++[p])=Tw v l+v p.n*(p.To-p.n):=by simp[Tw]
theorem MM{l:List GDateRange}:qu (l++[p])=qu l+(p.To-p.n):=by simp[qu]
theorem VD:∀{a b:Int}{l:List GDateRange}(j:Nat),tv a l b->∃c,tv a (l.take j) c/\c<=b
 |a,b,l,0,h=>⟨a,by simp[tv],(Ur h).2⟩
 |a,b,[],j+1,h=>⟨b,by simp_all,Qae _⟩
 |a,b,p::l,j+1,h=>by
  obtain⟨d,h2,e⟩:=h;obtain⟨c,f,g⟩:=VD j e;exact⟨c,⟨d,h2,f⟩,g⟩
theorem xC:∀{a b:Int}{l:List GDateRange},tv a l b->∀p∈l,a<=p.n/\p.n<p.To/\p.To<=b
 |a,b,[],h,p,c=>by simp at c
 |a,b,q::l,h,p,c=>by
  obtain⟨h1,h2,d⟩:=h;have h4:=(Ur d).2;rcases Tab.1 c with rfl|c
  .omega
  .have:=xC d p c;omega
theorem mulb{n k:Int}{B:Nat}(h1:-(B:Int)<=n/\n<=B) (h2:0<=k):-(B*k)<=n*k/\n*k<=B*k:=by
 constructor
 .rw[←Int.neg_mul];simp_all[xad]
 simp_all[xad]
theorem BL{v:Int->Int}:∀{a b:Int}{l:List GDateRange},tv a l b->(∀p∈l,-1000000000000000<=v p.n/\v p.n<=1000000000000000)->-(1000000000000000*qu l)<=Tw v l/\Tw v l<=1000000000000000*qu l
 |a,b,[],h,hv=>by simp[Tw,qu]
 |a,b,p::l,h,hv=>by
  obtain⟨h1,h2,c⟩:=h;have ih:=BL c λq hq=>hv q (by grind);have hp:=mulb (n:=v p.n) (k:=p.To-p.n) (B:=1000000000000000) (hv p (by simp)) (by omega)
  grind[Tw,qu]
noncomputable def QL(v:Int->GValue×Int) (rounding:Int) (l:List GDateRange):Int×Int:=
 match ff (λj=>match l[j]? with|some p=>if¬(v p.n).2=0 then some (v p.n).2 else none|none=>none) l.length with
 |some e=>(0,e)
 |none=>(max (vT (Tw (λd=>(v d).1.N) l) (qu l) rounding).1 0,0)
theorem GP(H:Ctx l h c i) {a b:Int}(hq:tv a q b) (hab:a<b/\b-a<=31) (hlen:q.length<=65536) (rec m:Int) :
 pn l h c q rec=some (QL (kc l i h c.s rec) c.an q)/\
 ((ca (Yd l h c m rec q) (0,0)).bind (λy=>match y with|.inr v=>some v|.inl I=>(some (b-a)).bind λL=>(kj I L c.an).bind λE=>Aaa (α:=Int) (if E.1<0 then some 0 else some E.1) λK=>some (GAward.mk m K 0)))=some ⟨m,(QL (kc l i h c.s rec) c.an q).1,(QL (kc l i h c.s rec) c.an q).2⟩:=by
 have o:∀j (hj:j<q.length),(∀k,k<j->(match q[k]? with|some p=>if¬(kc l i h c.s rec p.n).2=0 then some (kc l i h c.s rec p.n).2 else none|none=>(none:Option Int))=none)->
  (0<=qu (q.take j)/\qu (q.take j)<=31)/\-(1000000000000000*qu (q.take j))<=Tw (λd=>(kc l i h c.s rec d).1.N) (q.take j)/\Tw (λd=>(kc l i h c.s rec d).1.N) (q.take j)<=1000000000000000*qu (q.take j):=by
  intro j hj hn;obtain⟨e,O,h2⟩:=VD j hq;obtain⟨h3,h4⟩:=Ur O;refine⟨by omega,BL O λp J=>?_⟩;obtain⟨k,hk,rfl⟩:=Maa J;rw[Qac]at hk;have:=hn k (by omega);rw[Baa (by omega)]at this
  simp_all[QO]
 have x:(∀k,k<q.length->(match q[k]? with|some p=>if¬(kc l i h c.s rec p.n).2=0 then some (kc l i h c.s rec p.n).2 else none|none=>(none:Option Int))=none)->
  -(1000000000000000*qu q)<=Tw (λd=>(kc l i h c.s rec d).1.N) q/\Tw (λd=>(kc l i h c.s rec d).1.N) q<=1000000000000000*qu q:=by
  intro hn;refine BL hq λp J=>?_;obtain⟨k,hk,rfl⟩:=Maa J
  simp_all[QO]
 generalize P:kc l i h c.s rec=V at *;have D:∀j (hj:j<q.length),(∀k,k<j->(match q[k]? with|some p=>if¬(V p.n).2=0 then some (V p.n).2 else none|none=>(none:Option Int))=none)->
  (-1000000000000000<=(V q[j].n).1.N/\(V q[j].n).1.N<=1000000000000000\/¬(V q[j].n).2=0):=by
  intro j hj _;by_cases s:(V q[j].n).2=0
  .left;have:=QO H rec q[j].n (by simp_all)
   simp_all
  omega
 have e1:ca (ud l h c q rec) (0,0,0)=some (Eb (Tw (λd=>(V d).1.N) q,qu q) (ff (λj=>(match q[j]? with|some p=>if¬(V p.n).2=0 then some (V p.n).2 else none|none=>(none:Option Int)).map λe=>((0:Int),e)) q.length)):=by
  refine xb (step:=ud l h c q rec) (λj=>(Tw (λd=>(V d).1.N) (q.take j),qu (q.take j),(j:Int))) _ q.length _ (λj hj hn=>?_) (λ_=>?_) rfl
  .have f:∀k,k<j->(match q[k]? with|some p=>if¬(V p.n).2=0 then some (V p.n).2 else none|none=>(none:Option Int))=none:=λk hk=>by
    simp_all
   obtain⟨s1,s2,Q⟩:=o j hj f;have hm:=xC hq _ (Iaa hj);obtain⟨z,M,-,G⟩:=RO H rec q[j].n;rw[P]at G;have hb:=D j hj f;unfold ud;dsimp only;rw[if_pos (by omega),ya hj,zaa,M,zaa,Baa hj];dsimp only;rcases G with⟨t,C⟩|⟨t,p,C,-,F,R⟩
   .rw[if_pos t,C,if_pos t];rfl
   .rw[if_neg (Haa.2 t),C,zaa];have yN:(V q[j].n).1=p.1:=by rw[F]
    have yC:(V q[j].n).2=p.2.2.Code:=by rw[F]
    by_cases s:p.2.2.Code=0
    .rw[if_neg (Haa.2 s),yC,if_neg (Haa.2 s)];have w:-1000000000000000<=p.1.N/\p.1.N<=1000000000000000:=by
      simp_all
     have A:=mulb (n:=p.1.N) (k:=q[j].To-q[j].n) (B:=1000000000000000) w (by omega);rw[show((1000000000000000:Nat):Int)=1000000000000000 from rfl]at A;rw[wid (n:=q[j].To-q[j].n) (by omega) (by omega),wid (n:=p.1.N*(q[j].To-q[j].n)) (by omega) (by omega),wid (by omega) (by omega),wid (by omega) (by omega),sa (by omega),Xaa,Baa hj];simp only[Pab,oH,MM,yN];rfl
    .rw[if_pos s,yC,if_pos s];rfl
  simp_all[ud]
 have e2:ca (Yd l h c m rec q) (0,0)=some (Eb (Tw (λd=>(V d).1.N) q) (ff (λj=>(match q[j]? with|some p=>if¬(V p.n).2=0 then some (V p.n).2 else none|none=>(none:Option Int)).map λe=>(GAward.mk m 0 e)) q.length)):=by
  refine xb (step:=Yd l h c m rec q) (λj=>(Tw (λd=>(V d).1.N) (q.take j),(j:Int))) _ q.length _ (λj hj hn=>?_) (λ_=>?_) rfl
  .have f:∀k,k<j->(match q[k]? with|some p=>if¬(V p.n).2=0 then some (V p.n).2 else none|none=>(none:Option Int))=none:=λk hk=>by
    simp_all
   obtain⟨s1,s2,Q⟩:=o j hj f;have hm:=xC hq _ (Iaa hj);obtain⟨z,-,M,G⟩:=RO H rec q[j].n;rw[P]at G;have hb:=D j hj f;unfold Yd;dsimp only;rw[if_pos (by omega),ya hj,zaa,M,zaa,Baa hj];dsimp only;rcases G with⟨t,C⟩|⟨t,p,-,C,F,R⟩
   .rw[if_pos t,C,if_pos t];rfl
   .rw[if_neg (Haa.2 t),C,zaa];have yN:(V q[j].n).1=p.1:=by rw[F]
    have yC:(V q[j].n).2=p.2.2.Code:=by rw[F]
    by_cases s:p.2.2.Code=0
    .rw[if_neg (Haa.2 s),yC,if_neg (Haa.2 s)];have w:-1000000000000000<=p.1.N/\p.1.N<=1000000000000000:=by
      simp_all
     have A:=mulb (n:=p.1.N) (k:=q[j].To-q[j].n) (B:=1000000000000000) w (by omega);rw[show((1000000000000000:Nat):Int)=1000000000000000 from rfl]at A;rw[wid (n:=q[j].To-q[j].n) (by omega) (by omega),wid (n:=p.1.N*(q[j].To-q[j].n)) (by omega) (by omega),wid (by omega) (by omega),sa (by omega),Xaa,Baa hj];simp only[Pab,oH,yN];rfl
    .rw[if_pos s,yC,if_pos s];rfl
  simp_all[Yd]
 have u:∀{ρ:Type} (g:Int->ρ),ff (λj=>(match q[j]? with|some p=>if¬(V p.n).2=0 then some (V p.n).2 else none|none=>(none:Option Int)).map g) q.length=(ff (λj=>match q[j]? with|some p=>if¬(V p.n).2=0 then some (V p.n).2 else none|none=>(none:Option Int)) q.length).map g:=λg=>yG g;unfold pn QL;rw[e1,e2,u,u];obtain⟨d1,d2⟩:=Ur hq
 cases hf:ff (λj=>match q[j]? with|some p=>if¬(V p.n).2=0 then some (V p.n).2 else none|none=>(none:Option Int)) q.length with
 |some e=>exact⟨rfl,rfl⟩
 |none=>
  have hw:=x (ab.1 hf);simp only[Lad,uK,zaa];rw[Rg,Pz,←d1];simp only[zaa];have hr:=H.cf.r;have hdz:(vT (Tw (λd=>(V d).1.N) q) (qu q) c.an).2=0:=by
   grind[vT]
  grind
theorem vW(H:Ctx l h c i) (rec d:Int):∃q:GCase×Int,Ig l h d rec=some q/\
 ((q.2≠0/\kc l i h c.s rec d=(⟨0,0,0⟩,q.2))\/(q.2=0/\∃p,bc l h.ah q.1 c.s=some p/\kc l i h c.s rec d=(p.1,p.2.2.Code)/\(p.2.2.Code=0->sX p.1))):=by
 have hi:=H.cf.hi;obtain⟨b,e⟩:=NI H.hv;have a:b=i:=by have:=e.sc;have:=H.sc;omega
 subst a;refine⟨Hs l l.e[b] h d rec,xP H.ok H.cf.v H.hv hi H.sc d rec,?_⟩;unfold kc;rw[Baa hi];dsimp only;by_cases hc:(Hs l l.e[b] h d rec).2=0
 .right;refine⟨hc,?_⟩;obtain⟨f,k2⟩:=aO H.ok H.cf.v e hc H.cf.d;obtain⟨p,g,p3⟩:=nX H.ok (rC H.cf.v) H.few hi H.cf.d (by omega) f;rw[if_neg (Haa.2 hc),H.sc,g]
  simp_all
 simp_all
theorem AK(H:Ctx l h c i) (rec d:Int) (h0:(kc l i h c.s rec d).2=0):-1000000000000000<=(kc l i h c.s rec d).1.N/\(kc l i h c.s rec d).1.N<=1000000000000000:=by
 obtain⟨q,-,hq⟩:=vW H rec d;rcases hq with⟨q1,q2⟩|⟨-,p,-,p3,p4⟩
 all_goals simp_all[val0_b]
theorem F3(H:Ctx l h c i) {a b:Int}(hq:tv a q b) (hab:a<b/\b-a<=31) (hlen:q.length<=65536) (rec:Int) :
 pn l h c q rec=some (QL (kc l i h c.s rec) c.an q):=by
 have m:∀j (hj:j<q.length),(∀k,k<j->(match q[k]? with|some p=>if¬(kc l i h c.s rec p.n).2=0 then some (kc l i h c.s rec p.n).2 else none|none=>(none:Option Int))=none)->
  (0<=qu (q.take j)/\qu (q.take j)<=31)/\-(1000000000000000*qu (q.take j))<=Tw (λd=>(kc l i h c.s rec d).1.N) (q.take j)/\Tw (λd=>(kc l i h c.s rec d).1.N) (q.take j)<=1000000000000000*qu (q.take j):=by
  intro j hj hn;obtain⟨e,C,h2⟩:=VD j hq;obtain⟨h3,h4⟩:=Ur C;refine⟨by omega,BL C λp x=>?_⟩;obtain⟨k,hk,rfl⟩:=Maa x;rw[Qac]at hk;have:=hn k (by omega);rw[Baa (by omega)]at this
  simp_all[AK]
 have f:(∀k,k<q.length->(match q[k]? with|some p=>if¬(kc l i h c.s rec p.n).2=0 then some (kc l i h c.s rec p.n).2 else none|none=>(none:Option Int))=none)->
  -(1000000000000000*qu q)<=Tw (λd=>(kc l i h c.s rec d).1.N) q/\Tw (λd=>(kc l i h c.s rec d).1.N) q<=1000000000000000*qu q:=by
  intro hn;refine BL hq λp x=>?_;obtain⟨k,hk,rfl⟩:=Maa x
  simp_all[AK]
 generalize F:kc l i h c.s rec=V at *;have w:∀j (hj:j<q.length),(∀k,k<j->(match q[k]? with|some p=>if¬(V p.n).2=0 then some (V p.n).2 else none|none=>(none:Option Int))=none)->
  (-1000000000000000<=(V q[j].n).1.N/\(V q[j].n).1.N<=1000000000000000\/¬(V q[j].n).2=0):=by
  intro j hj _;by_cases o:(V q[j].n).2=0
  .left;have:=AK H rec q[j].n (by simp_all)
   simp_all
  omega
 have e1:ca (ud l h c q rec) (0,0,0)=some (Eb (Tw (λd=>(V d).1.N) q,qu q) (ff (λj=>(match q[j]? with|some p=>if¬(V p.n).2=0 then some (V p.n).2 else none|none=>(none:Option Int)).map λe=>((0:Int),e)) q.length)):=by
  refine xb (step:=ud l h c q rec) (λj=>(Tw (λd=>(V d).1.N) (q.take j),qu (q.take j),(j:Int))) _ q.length _ (λj hj hn=>?_) (λ_=>?_) rfl
  .have t:∀k,k<j->(match q[k]? with|some p=>if¬(V p.n).2=0 then some (V p.n).2 else none|none=>(none:Option Int))=none:=λk hk=>by
    simp_all
   obtain⟨s1,s2,s3⟩:=m j hj t;have hm:=xC hq _ (Iaa hj);obtain⟨z,G,E⟩:=vW H rec q[j].n;rw[F]at E;have hb:=w j hj t;unfold ud;dsimp only;rw[if_pos (by omega),ya hj,zaa,G,zaa,Baa hj];dsimp only;rcases E with⟨u,A⟩|⟨u,p,A,D,y4⟩
   .rw[if_pos u,A,if_pos u];rfl
   .rw[if_neg (Haa.2 u),A,zaa];have yN:(V q[j].n).1=p.1:=by rw[D]
    have yC:(V q[j].n).2=p.2.2.Code:=by rw[D]
    by_cases o:p.2.2.Code=0
    .rw[if_neg (Haa.2 o),yC,if_neg (Haa.2 o)];have v:-1000000000000000<=p.1.N/\p.1.N<=1000000000000000:=by
      simp_all
     have y:=mulb (n:=p.1.N) (k:=q[j].To-q[j].n) (B:=1000000000000000) v (by omega);rw[show((1000000000000000:Nat):Int)=1000000000000000 from rfl]at y;rw[wid (n:=q[j].To-q[j].n) (by omega) (by omega),wid (n:=p.1.N*(q[j].To-q[j].n)) (by omega) (by omega),wid (by omega) (by omega),wid (by omega) (by omega),sa (by omega),Xaa,Baa hj];simp only[Pab,oH,MM,yN];rfl
    .rw[if_pos o,yC,if_pos o];rfl
  simp_all[ud]
 have s:∀{ρ:Type} (g:Int->ρ),ff (λj=>(match q[j]? with|some p=>if¬(V p.n).2=0 then some (V p.n).2 else none|none=>(none:Option Int)).map g) q.length=(ff (λj=>match q[j]? with|some p=>if¬(V p.n).2=0 then some (V p.n).2 else none|none=>(none:Option Int)) q.length).map g:=λg=>yG g;unfold pn QL;rw[e1,s];obtain⟨d1,d2⟩:=Ur hq
 cases hf:ff (λj=>match q[j]? with|some p=>if¬(V p.n).2=0 then some (V p.n).2 else none|none=>(none:Option Int)) q.length with
 |some e=>rfl
 |none=>
  have hw:=f (ab.1 hf);simp only[Lad,uK,zaa];rw[Rg];simp only[zaa];have hr:=H.cf.r
  grind[vT]
noncomputable def pP(l:GLaw) (h:GHousehold) (rec:Int):List Int:=Pd ((Pd (ends (CE rec h.aa))).filter Ii++(Pd (ends (qw l.Tables++ow l.e))).filter Ii)
theorem cd_s(rec:Int) (hl:FewR l) (hh:h.aa.length<=64):vb l h rec=some (pP l h rec)/\(pP l h rec).Pairwise (·<·)/\(pP l h rec).length<=65536/\
 ∃a b,Uh h.aa rec=some a/\Th l=some b/\a.length<=1048576/\b.length<=1048576/\∀x,x∈pP l h rec↔x∈a\/x∈b:=by
 have k1:=Cw (l:=h.aa) rec (by omega);have k2:=Is hl;obtain⟨ra,a1,a2,a3⟩:=kD (l:=h.aa) rec (by omega);obtain⟨rb,b1,b2,b3⟩:=jD hl;have n1:=Yaa Ii (Pd (ends (CE rec h.aa)));have n2:=Vw (ends (CE rec h.aa));have n3:=jr (CE rec h.aa);have n4:=SI rec h.aa;have m1:=Yaa Ii (Pd (ends (qw l.Tables++ow l.e)));have m2:=Vw (ends (qw l.Tables++ow l.e));have m3:=jr (qw l.Tables++ow l.e);have m4:=Nx hl.t;have m5:=Ix hl.s;have m6:=hl.nt;have m7:=hl.ns;rw[kab]at m3;have hcd:vb l h rec=some (pP l h rec):=by
  grind[vb,pP,lst,ZP,XW]
 grind[pP,Gg]
noncomputable def AS(l:GLaw) (h:GHousehold) (m rec:Int):List GDateRange:=Nv (Va m).1.To (Va m).1.n ((pP l h rec).filter (inside (Va m).1))
theorem oR(hm:(Va m).2=0) (hl:FewR l) (a:h.aa.length<=64):tv (Va m).1.n (AS l h m rec) (Va m).1.To/\(AS l h m rec).length<=65537:=by
 obtain⟨-,h2,h3,-⟩:=cd_s (l:=l) (h:=h) rec hl a;have hr:=Ru hm
 grind[inside,AS,pB,MG]
theorem pc_few(hm:(Va m).2=0) (hl:FewR l) (d:h.aa.length<=64):(AS l h m rec).length<=65536:=by
 obtain⟨c,h2⟩:=oR (rec:=rec) hm hl d;have hr:=Ru hm;have:∀{a b:Int} {q:List GDateRange},tv a q b->(q.length:Int)<=b-a:=by
  intro a b q
  induction q generalizing a with
  |nil=>intro h;simp only[tv]at h;simp_all
  |cons p q ih=>
   intro h;obtain⟨e1,e2,e3⟩:=h
   grind
 have h4:=this c;have h5:(Va m).1.To-(Va m).1.n<=31:=by
  unfold Va at hm⊢;split at hm
  .rename_i hc;rw[if_pos hc];have:=Fe (y:=1900+((m.toNat / 12:Nat):Int)) (m:=((m.toNat % 12:Nat):Int)+1)
   grind
  omega
 omega
theorem jU(hm:(Va m).2=0):ts m=some ((Va m).1.To-(Va m).1.n)/\(Va m).1.n<(Va m).1.To/\(Va m).1.To-(Va m).1.n<=31/\0<=m/\m<=3599:=by
 have hr:=Ru hm;unfold Va at hm;split at hm
 case isFalse=>omega
 rename_i hc;have hd:=Fe (y:=1900+((m.toNat / 12:Nat):Int)) (m:=((m.toNat % 12:Nat):Int)+1);have e:(Va m).1.To-(Va m).1.n=Sl (1900+((m.toNat / 12:Nat):Int)) (((m.toNat % 12:Nat):Int)+1):=by
  grind[Va]
 refine⟨?_,hr.2.1,by omega,hc.1,hc.2⟩;obtain⟨e1,e2⟩:=pH hc.1 hc.2;unfold ts;rw[ID,zaa,if_neg (by simp_all),e1,e2,Qb (by omega) (by omega) (by omega),e];rfl
theorem XS(hl:LawOk l) (few:∀x∈l.e,x.f.length<=64) (f:h.aa.length<=1048576) (hc:c.ar.am.length<=1048576) :
 ∃b,Ae l h c=some b/\Xv l h c=some b/\(b=true->∃i,Ctx l h c i):=by
 obtain⟨n,g,e⟩:=OX hl hc h.ah;unfold Ae Xv;rw[g,e,XG l h hl.ns f,xk l h hl.ns];simp only[zaa];by_cases a:n=0
 .rw[if_neg (Haa.2 a),if_pos a];refine⟨_,rfl,rfl,λhb=>?_⟩;subst a;obtain⟨i,hi,d⟩:=NX hl e;exact⟨i,hl,few,d,by simp_all,hi⟩
 simp_all
theorem month_p(hm:(Va m).2=0):(Va m).1.n<(Va m).1.To/\(Va m).1.To-(Va m).1.n<=31/\0<=m/\m<=3599:=by
 grind[Va,Sl]
theorem WS(hl:LawOk l) (few:∀x∈l.e,x.f.length<=64) (hh:h.aa.length<=1048576) (hc:c.ar.am.length<=1048576) :
 ∃b,Ae l h c=some b/\(b=true->∃i,Ctx l h c i):=by
 obtain⟨n,e⟩:=M4 hl hc h.ah;unfold Ae;rw[e,xk l h hl.ns];simp only[zaa];by_cases d:n=0
 .rw[if_neg (Haa.2 d)];refine⟨_,rfl,λhb=>?_⟩;subst d;obtain⟨i,hi,a⟩:=L4 hl e;exact⟨i,hl,few,a,by simp_all,hi⟩
 simp_all
noncomputable def awS(l:GLaw) (h:GHousehold) (c:GPayConfig) (m rec:Int):GAward:=
 if¬(Va m).2=0 then⟨m,0,3⟩else if(Ae l h c).getD false=false then⟨m,0,1⟩else
 ⟨m,(QL (kc l h.ah.toNat h c.s rec) c.an (AS l h m rec)).1,(QL (kc l h.ah.toNat h c.s rec) c.an (AS l h m rec)).2⟩
theorem PL(hl:LawOk l) (d:FewR l) (e:h.aa.length<=64) (hc:c.ar.am.length<=1048576) (m rec:Int) :
 Bf l h c m rec=some (awS l h c m rec)/\kq l h c m rec=some (awS l h c m rec):=by
 obtain⟨b,f,g,j⟩:=XS hl (λx hx=>Bab (d.s x hx) (by decide)) (h:=h) (by omega) hc;unfold Bf kq awS;rw[DD,zaa,kR];by_cases hm:(Va m).2=0
 case neg=>
  have:m<0\/3599<m:=by
   grind[Va]
  simp_all
 obtain⟨q1,v,w,q4,q5⟩:=jU hm;rw[if_neg (Haa.2 hm),if_neg (Haa.2 hm),decide_eq_false (p:=m<0\/3599<m) (by omega),if_neg (show¬(false=true)from λh=>nomatch h),f,g,zaa,zaa,Lab]
 cases b with
 |false=>simp
 |true=>
  obtain⟨i,H⟩:=j rfl;rw[if_neg (by simp),if_neg (by simp),if_neg (by simp)];obtain⟨d1,d2,n,a,bb,o,q,r,t,u⟩:=cd_s (l:=l) (h:=h) rec d e;have hr:=Ru hm;obtain⟨k,-⟩:=oR (rec:=rec) hm d e;obtain⟨e1,e2⟩:=GP H k ⟨v,w⟩ (pc_few hm d e) rec m;have hi:h.ah.toNat=i:=by have:=H.sc;omega
  rw[d1,o,q];simp only[zaa];rw[nB d2 n hr,zaa];unfold Uq;rw[jM,zaa,SK d2 r t u hr,zaa,q1];rw[show Nv (Va m).1.To (Va m).1.n ((pP l h rec).filter (inside (Va m).1))=AS l h m rec from rfl]
  grind
theorem QC(d:Ip=some true) (g:LawSz l) (ht:K2 l) (h:GHousehold) (c:GPayConfig) (q:GGuerdonlaw36_Query):vi l h c q=some true:=by
 unfold vi wy cm Wq;obtain⟨b,hb,e⟩:=BI l;rw[hb,d]
 cases b with
 |false=>rfl
 |true=>
  have a:=e rfl;by_cases hh:(h.aa.length:Int)<=40
  .by_cases hc:(c.ar.am.length:Int)<=70
   .have hf:FewR l:=⟨a.nt,a.ns,a.rows g,λs f=>(a.s s f).rules⟩;obtain⟨e1,e2⟩:=PL (a.ok ht) hf (h:=h) (by omega) (c:=c) (by omega) q.aq q.af
    simp_all
   simp_all
  grind
theorem cd_p(rec:Int) (hl:FewR l) (hh:h.aa.length<=64):vb l h rec=some (pP l h rec)/\(pP l h rec).Pairwise (·<·)/\(pP l h rec).length<=65536/\
 ∀x,x∈pP l h rec↔(x∈ends (CE rec h.aa)/\Ii x=true)\/(x∈ends (qw l.Tables++ow l.e)/\Ii x=true):=by
 have k1:=Cw (l:=h.aa) rec (by omega);have k2:=Is hl;have n1:=Yaa Ii (Pd (ends (CE rec h.aa)));have n2:=Vw (ends (CE rec h.aa));have n3:=jr (CE rec h.aa);have n4:=SI rec h.aa;have m1:=Yaa Ii (Pd (ends (qw l.Tables++ow l.e)));have m2:=Vw (ends (qw l.Tables++ow l.e));have m3:=jr (qw l.Tables++ow l.e);have m4:=Nx hl.t;have m5:=Ix hl.s;have m6:=hl.nt;have m7:=hl.ns;rw[kab]at m3;have hcd:vb l h rec=some (pP l h rec):=by
  grind[vb,pP,lst,ZP,XW]
 grind[pP,Gg]
theorem zN(hm:(Va m).2=0) (hl:FewR l) (a:h.aa.length<=64):tv (Va m).1.n (AS l h m rec) (Va m).1.To/\(AS l h m rec).length<=65537:=by
 obtain⟨-,h2,h3,-⟩:=cd_p (l:=l) (h:=h) rec hl a;have hr:=Ru hm
 grind[inside,AS,pB,MG]
theorem pc_few1(hm:(Va m).2=0) (hl:FewR l) (d:h.aa.length<=64):(AS l h m rec).length<=65536:=by
 obtain⟨c,h2⟩:=zN (rec:=rec) hm hl d;have hr:=Ru hm;have:∀{a b:Int} {q:List GDateRange},tv a q b->(q.length:Int)<=b-a:=by
  intro a b q
  induction q generalizing a with
  |nil=>intro h;simp only[tv]at h;simp_all
  |cons p q ih=>
   intro h;obtain⟨e1,e2,e3⟩:=h
   grind
 have h4:=this c;have h5:(Va m).1.To-(Va m).1.n<=31:=by
  unfold Va at hm⊢;split at hm
  .rename_i hc;rw[if_pos hc];have:=Fe (y:=1900+((m.toNat / 12:Nat):Int)) (m:=((m.toNat % 12:Nat):Int)+1)
   grind
  omega
 omega
theorem SS(hl:LawOk l) (a:FewR l) (d:h.aa.length<=64) (hc:c.ar.am.length<=1048576) (m rec:Int) :
 Bf l h c m rec=some (awS l h c m rec):=by
 obtain⟨b,e,f⟩:=WS hl (λx hx=>Bab (a.s x hx) (by decide)) (h:=h) (by omega) hc;unfold Bf awS;rw[DD,zaa];by_cases hm:(Va m).2=0
 case neg=>simp_all
 obtain⟨k,n,q4,q5⟩:=month_p hm;rw[if_neg (Haa.2 hm),if_neg (Haa.2 hm),e,zaa,Lab]
 cases b with
 |false=>rfl
 |true=>
  obtain⟨i,H⟩:=f rfl;rw[if_neg (by simp),if_neg (by simp)];obtain⟨d1,d2,j,-⟩:=cd_p (l:=l) (h:=h) rec a d;have hr:=Ru hm;obtain⟨g,-⟩:=zN (rec:=rec) hm a d;have e1:=F3 H g ⟨k,n⟩ (pc_few1 hm a d) rec;have hi:h.ah.toNat=i:=by have:=H.sc;omega
  rw[d1];simp only[zaa];rw[nB d2 j hr,zaa];rw[show Nv (Va m).1.To (Va m).1.n ((pP l h rec).filter (inside (Va m).1))=AS l h m rec from rfl]
  simp_all
end Go.Proofs.Dev
namespace Go.Tm
variable {l:List Int}{k i j n:Nat}
def nu(l:List Int) (k:Nat):Int:=l.getD k 0
def swp(l:List Int) (i j:Nat):List Int:=(l.set i (nu l j)).set j (nu l i)
def Hp(l:List Int) (n:Nat):Prop:=∀k,0<k->k<n->nu l ((k-1) / 2)<=nu l k
def HpU(l:List Int) (j:Nat):Prop:=(∀k,0<k->k<l.length->k≠j->nu l ((k-1) / 2)<=nu l k)/\(∀k,0<j->0<k->k<l.length->(k-1) / 2=j->nu l ((j-1) / 2)<=nu l k)
def HpD(l:List Int) (n i:Nat):Prop:=(∀k,0<k->k<n->(k-1) / 2≠i->nu l ((k-1) / 2)<=nu l k)/\(∀k,0<i->0<k->k<n->(k-1) / 2=i->nu l ((i-1) / 2)<=nu l k)
theorem Yl(h:k<l.length):nu l k=l[k]:=by grind[nu]
theorem RF:(swp l i j).length=l.length:=by simp[swp]
theorem Wo(hi:i<l.length) (hj:j<l.length):nu (swp l i j) k=if k=j then nu l i else if k=i then nu l j else nu l k:=by
 grind[swp,nu]
theorem pC(hi:i<l.length) (hj:j<l.length):(swp l i j).Perm l:=by
 grind[swp,Yl]
theorem up_end(h:HpU l j) (hj:j=0\/nu l ((j-1) / 2)<=nu l j):Hp l l.length:=by
 intro k a b;by_cases hk:k=j
 .grind
 .exact h.1 k a b hk
theorem up_go(h:HpU l j) (hj:0<j) (hl:j<l.length) (hlt:nu l j<nu l ((j-1) / 2)):HpU (swp l ((j-1) / 2) j) ((j-1) / 2):=by
 have c:(j-1) / 2<l.length:=by omega
 refine⟨λk b a h2=>?_,λk b a h2 h3=>?_⟩
 .rw[RF]at a;rw[Wo c hl,Wo c hl];by_cases hk:k=j
  .omega
  .rw[if_neg hk,if_neg h2];by_cases d:(k-1) / 2=j
   .rw[if_pos d];exact h.2 k hj b a d
   .rw[if_neg d];by_cases f:(k-1) / 2=(j-1) / 2
    .rw[if_pos f];have:=h.1 k b a hk
     grind
    .rw[if_neg f];exact h.1 k b a hk
 .rw[RF]at h2;rw[Wo c hl,Wo c hl];have e:nu l (((j-1) / 2-1) / 2)<=nu l ((j-1) / 2):=h.1 _ b c (by omega);rw[if_neg (by omega),if_neg (by omega)];by_cases hk:k=j
  .omega
  .rw[if_neg hk,if_neg (by omega)];have:=h.1 k a h2 hk
   grind
theorem push_U{x:Int}(h:Hp l l.length):HpU (l++[x]) l.length:=by
 refine⟨λk a b h2=>?_,λk a b h2 h3=>?_⟩
 .have hk:k<l.length:=by grind
  have e:∀q,q<l.length->nu (l++[x]) q=nu l q:=λq hq=>by grind[Yl]
  rw[e _ (by omega),e _ hk];exact h k a hk
 grind
def CmH(l:List Int) (n i j:Nat):Prop:=0<j/\j<n/\(j-1) / 2=i/\∀k,0<k->k<n->(k-1) / 2=i->nu l j<=nu l k
theorem cm_1(a:2*i+1<n) (h:2*i+2<n->nu l (2*i+1)<=nu l (2*i+2)):CmH l n i (2*i+1):=by
 refine⟨by omega,a,by omega,λk h0 h2 h3=>?_⟩
 grind
theorem cm_2(a:2*i+2<n) (h:nu l (2*i+2)<nu l (2*i+1)):CmH l n i (2*i+2):=by
 refine⟨by omega,a,by omega,λk h0 h2 h3=>?_⟩
 grind
theorem WX(h:HpD l n i) (hn:n<=2*i+1):Hp l n:=λk a b=>h.1 k a b (by omega)
theorem zJ(h:HpD l n i) (hc:CmH l n i j) (hle:nu l i<=nu l j):Hp l n:=by
 intro k a b;by_cases hk:(k-1) / 2=i
 .have:=hc.2.2.2 k a b hk
  grind
 .exact h.1 k a b hk
theorem lO(h:HpD l n i) (hn:n<=l.length) (hc:CmH l n i j) (hlt:nu l j<nu l i):HpD (swp l i j) n j:=by
 obtain⟨f,g,d,c3⟩:=hc;have hi:i<l.length:=by omega
 have hj:j<l.length:=by omega
 refine⟨λk b c h2=>?_,λk b c h2 h3=>?_⟩
 .rw[Wo hi hj,Wo hi hj,if_neg h2];by_cases hk:k=j
  .omega
  .rw[if_neg hk];by_cases a:k=i
   .subst a;rw[if_neg (by omega),if_pos rfl];exact h.2 j b f g d
   .rw[if_neg a];by_cases e:(k-1) / 2=i
    .simp_all
    .rw[if_neg e];exact h.1 k b c e
 .rw[Wo hi hj,Wo hi hj,if_neg (by omega),if_pos d,if_neg (by omega),if_neg (by omega)];have:=h.1 k c h2 (by omega)
  simp_all
theorem pop_D(h:Hp l l.length) (hl:l.length=n+1):HpD (swp l 0 n) n 0:=by
 refine⟨λk a h1 h2=>?_,λk a=>absurd a (by omega)⟩;rw[Wo (by omega) (by omega),Wo (by omega) (by omega),if_neg (by omega),if_neg h2,if_neg (by omega),if_neg (by omega)];exact h k a (by omega)
theorem hp_min(h:Hp l n):∀k,k<n->nu l 0<=nu l k:=by
 intro k
 induction k using Nat.strongRecOn with
 |ind k a=>
  intro hk;by_cases h0:k=0
  .simp_all
  .have h1:=a ((k-1) / 2) (by omega) (by omega);have h2:=h k (by omega) hk;omega
theorem hp_take(h:Hp l n) (hn:n<=l.length):Hp (l.take n) (l.take n).length:=by
 intro k a b;rw[Qac]at b;have e:∀q,q<n->nu (l.take n) q=nu l q:=λq hq=>by
  grind[Yl]
 rw[e _ (by omega),e _ (by omega)];exact h k a (by omega)
end Go.Tm
namespace Go.Proofs.Dev
open Go Go.Tm
variable {d i j k e:Nat}{x:Int}
structure GOk (g:List (List Int)):Prop where
 len:g.length<=1048576
 inr:∀l∈g,∀e∈l,0<=e/\e<g.length
 nd:∀l∈g,l.Nodup
theorem LG:∀{n:Nat}{l:List Int},l.Nodup->(∀x∈l,0<=x/\x<(n:Int))->l.length<=n
 |0,l,_,h=>by
  cases l with
  |nil=>simp
  |cons x l=>grind[Cae]
 |n+1,l,hd,h=>by
  by_cases hm:(n:Int)∈l
  .have h1:=LG (n:=n) (l:=l.erase n) (hd.erase _) (λx hx=>by
    grind)
   simp_all
  .have:=LG (n:=n) (l:=l) hd (λx hx=>by
    grind)
   omega
def Ji(g:List (List Int)) (i d:Nat):List Int:=((Kaa i).filter λe=>(g.getD e []).contains (d:Int)).map λ(e:Nat)=>(e:Int)
def Bu(g:List (List Int)) (i j d:Nat):List Int:=Ji g i d++if((g.getD i []).take j).contains (d:Int)then [(i:Int)]else []
theorem TX{g:List (List Int)}:Ji g 0 d=[]:=rfl
theorem UX{g:List (List Int)}:Bu g i 0 d=Ji g i d:=by simp[Bu]
theorem SX{g:List (List Int)}:Ji g (i+1) d=Bu g i (g.getD i []).length d:=by
 grind[Ji,Bu,aad]
theorem JM{g:List (List Int)}(hj:j<(g.getD i []).length) (hnd:(g.getD i []).Nodup):Bu g i (j+1) d=if(g.getD i [])[j]=(d:Int)then Bu g i j d++[(i:Int)]else Bu g i j d:=by
 unfold Bu;rw[Xaa,Baa hj,Pab];by_cases h:(g.getD i [])[j]=(d:Int)
 .rw[if_pos h];have h1:((g.getD i []).take j++[(g.getD i [])[j]]).contains (d:Int)=true:=aab.2 (tab.2 (.inr (by simp_all)));have h2:((g.getD i []).take j).contains (d:Int)=false:=by
   rw[←Pac,aab]
   grind[Maa,Vab]
  simp_all
 grind
theorem xJ{g:List (List Int)}:(Ji g i d).length<=i:=by
 grind[Ji]
theorem U4{g:List (List Int)}:(Bu g i j d).length<=i+1:=by
 grind[Bu,xJ]
def pU(g:List (List Int)) (i:Nat):List Int:=((Kaa i).filter λe=>(g.getD e []).isEmpty).map λ(e:Nat)=>(e:Int)
theorem pR{g:List (List Int)}:pU g (i+1)=if(g.getD i [])=[]then pU g i++[(i:Int)]else pU g i:=by
 grind[pU,aad]
theorem rd0_len{g:List (List Int)}:(pU g i).length<=i:=by
 grind[pU]
def iF(g:List (List Int)) (i:Nat):List Int:=(Kaa g.length).map λe=>if e<i then((g.getD e []).length:Int)else 0
theorem EY{g:List (List Int)}:iF g 0=Daa g.length 0:=by
 unfold iF;apply iac<;>simp
theorem DY{g:List (List Int)}(hi:i<g.length):(iF g i).set i ((g.getD i []).length:Int)=iF g (i+1):=by
 unfold iF;apply iac
 all_goals grind
def cI(g:List (List Int)) (out:List Int) (e:Nat):Int:=(((g.getD e []).filter λd=>!out.contains d).length:Int)
def IQ(g:List (List Int)) (out:List Int):List Int:=(Kaa g.length).map λe=>cI g out e
def yW(g:List (List Int)) (out:List Int):List Int:=((Kaa g.length).filter (fD g out)).map λ(d:Nat)=>(d:Int)
structure J2 (g:List (List Int)) (out l:List Int):Prop where
 nd:out.Nodup
 inr:∀x∈out,0<=x/\x<(g.length:Int)
 D4:∀d:Nat,(d:Int)∈out->∀e∈g.getD d [],e∈out
 perm:l.Perm (yW g out)
 ord:iv g (g.length-out.length) out=Qu g
variable {g:List (List Int)}{out l:List Int}
theorem XI:x∈yW g out↔∃d:Nat,x=d/\d<g.length/\(d:Int)∉out/\∀e∈g.getD d [],e∈out:=by
 unfold yW;rw[pac];constructor
 .rintro⟨d,hd,rfl⟩;rw[Bac,Lac]at hd;obtain⟨a,h2⟩:=hd;unfold fD at h2
  grind
 .rintro⟨d,rfl,a,h2,h3⟩;refine⟨d,?_,rfl⟩
  simp_all[fD]
theorem B8:(yW g out).Nodup:=by
 grind[yW,Hae,dae]
theorem j2_0(h:l.Perm (pU g g.length)):J2 g [] l:=by
 refine⟨List.nodup_nil,λx h=>(bae h).elim,λd h=>(bae h).elim,?_,by rw[sab,Nat.sub_zero];rfl⟩;have:pU g g.length=yW g []:=by
  unfold pU yW;congr 1;refine Wad λd _=>?_;unfold fD;cases hq:g.getD d []<;>simp
 simp_all
theorem indO_0:iF g g.length=IQ g []:=by
 unfold iF IQ;refine Aac λe he=>?_;rw[if_pos (Lac.1 he)]
 grind[cI,List.filter_eq_self]
theorem j2_end(h:J2 g out []):Qu g=if out.length<g.length then([],9)else(out,0):=by
 rw[←h.ord];have hl:out.length<=g.length:=LG h.nd h.inr;have he:yW g out=[]:=List.Perm.eq_nil (h.perm.symm);split
 .rename_i hlt;obtain⟨k,hk⟩:∃k,g.length-out.length=k+1:=⟨g.length-out.length-1,by omega⟩;rw[hk];unfold iv;have hf:(Kaa g.length).find? (fD g out)=none:=by
   rw[List.find?_eq_none];intro d hd hr;have:(d:Int)∈yW g out:=by
    unfold yW
    grind
   simp_all
  rw[hf]
 .rw[show g.length-out.length=0 by omega];rfl
def YA(g:List (List Int)) (out:List Int) (d k:Nat):List Int:=(Kaa g.length).map λe=>cI g out e-if((Ji g g.length d).take k).contains (e:Int)then 1 else 0
def qF(g:List (List Int)) (out:List Int) (d k:Nat):List Int:=((Ji g g.length d).take k).filter λe=>cI g out e.toNat==1
theorem RB:x∈Ji g g.length d↔∃e:Nat,x=e/\e<g.length/\(d:Int)∈g.getD e []:=by
 unfold Ji
 grind
theorem wV:(Ji g g.length d).Nodup:=by
 grind[Ji,Hae,dae]
theorem indK_0:YA g out d 0=IQ g out:=by
 grind[YA,IQ]
theorem gaa(hnd:l.Nodup) (hk:k<l.length):(l.take k).contains l[k]=false:=by
 rw[←Pac,aab]
 grind[Maa,Vab]
theorem y6(hk:k<(Ji g g.length d).length) (he:(Ji g g.length d)[k]=(e:Int)) (hl:e<g.length):(YA g out d k)[e]?=some (cI g out e):=by
 grind[YA,gaa,wV]
theorem XM(hk:k<(Ji g g.length d).length) (he:(Ji g g.length d)[k]=(e:Int)):(YA g out d k).set e (cI g out e-1)=YA g out d (k+1):=by
 unfold YA;apply iac
 .simp
 .intro q h1 h2;rw[List.getElem_set];simp only[lad,Bae];rw[Xaa,Baa hk,Pab,he]
  grind
theorem newK_0:qF g out d 0=[]:=rfl
theorem nN(hk:k<(Ji g g.length d).length) (he:(Ji g g.length d)[k]=(e:Int)):qF g out d (k+1)=if cI g out e=1 then qF g out d k++[(e:Int)]else qF g out d k:=by
 unfold qF;rw[Xaa,Baa hk,Pab,he,uab]
 grind
theorem i7:(qF g out d k).length<=g.length:=by
 grind[qF,xJ]
theorem gmem(h:e<g.length):g.getD e []∈g:=by
 simp_all
theorem oJ(b:GOk g) (he:e<g.length) (hd:(d:Int)∉out):cI g (out++[(d:Int)]) e=cI g out e-if(Ji g g.length d).contains (e:Int)then 1 else 0:=by
 unfold cI;have hn:=b.nd _ (gmem he);have hc:(Ji g g.length d).contains (e:Int)=(g.getD e []).contains (d:Int):=by
  rw[Vac,aab,aab,RB]
  grind
 rw[hc];generalize g.getD e []=l at hn
 induction l with
 |nil=>rfl
 |cons a l ih=>
  grind
theorem G4(h:∀q∈g.getD e [],q∈out):cI g out e=0:=by
 grind[cI,Eac]
theorem IX(h:cI g out e=0):∀q∈g.getD e [],q∈out:=by
 grind[cI,Uaa,Eac]
theorem j2_pop(A:GOk g) {l':List Int}(h:J2 g out l) (C:(x::l').Perm l) (hmin:∀y∈l',x<=y) :
 ∃d:Nat,x=d/\d<g.length/\YA g out d (Ji g g.length d).length=IQ g (out++[x])/\out.length<g.length/\∀n,n.Perm (l'++qF g out d (Ji g g.length d).length)->J2 g (out++[x]) n:=by
 have s:=C.trans h.perm;obtain⟨d,rfl,u,m,hde⟩:=XI.1 (s.mem_iff.1 (Cae ..));have i:(out++[(d:Int)]).Nodup:=by
  rw[Jae];refine⟨h.nd,by simp,λa ha b hb=>?_⟩
  grind
 have f:∀x∈out++[(d:Int)],0<=x/\x<(g.length:Int):=λx hx=>by
  rcases tab.1 hx with c|c
  .exact h.inr x c
  simp_all
 have r:out.length<g.length:=by
  have:=LG i f
  grind
 have w:(d:Int)∉l'/\l'.Nodup:=List.nodup_cons.1 ((s.nodup_iff).2 B8);refine⟨d,rfl,u,?_,r,λn p=>⟨i,f,?_,?_,?_⟩⟩
 .simp_all[YA,IQ,oJ]
 .intro q hq e he;rcases tab.1 hq with c|c
  .exact oae _ (h.D4 q c e he)
  grind
 .refine p.trans ?_;have v:(qF g out d (Ji g g.length d).length).Nodup:=by
   grind[qF,wV]
  have j:∀y,y∈qF g out d (Ji g g.length d).length↔∃e:Nat,y=e/\e<g.length/\(d:Int)∈g.getD e []/\cI g out e=1:=by
   intro y;unfold qF;rw[tac,Bac,RB]
   grind
  have D:∀y,y∈l'↔y∈yW g out/\y≠d:=by
   grind
  rw[List.perm_ext_iff_of_nodup ?_ B8]
  .intro y;rw[tab,D,j,XI,XI];constructor
   .rintro(⟨⟨e,rfl,c,h2,o⟩,B⟩|⟨e,rfl,c,h2,o⟩)
    .grind
    .refine⟨e,rfl,c,λhm=>?_,?_⟩
     .rcases tab.1 hm with t|t
      .exact m (h.D4 e t d h2)
      grind
     .refine IX ?_;rw[oJ A c m,if_pos (aab.2 (RB.2 ⟨e,rfl,c,h2⟩)),o];rfl
   .rintro⟨e,rfl,c,h2,o⟩;have B:(e:Int)∉out:=λhm=>h2 (oae _ hm);have t:(e:Int)≠d:=λhm=>h2 (List.mem_append_right _ (Nab.2 hm));by_cases z:(d:Int)∈g.getD e []
    .refine .inr ⟨e,rfl,c,z,?_⟩;have:=G4 o;rw[oJ A c m,if_pos (aab.2 (RB.2 ⟨e,rfl,c,z⟩))]at this;omega
    grind
  .rw[Jae];refine⟨w.2,v,λa ha b hb e=>?_⟩;subst e;obtain⟨e,rfl,c,h2,o⟩:=(j a).1 hb
   grind[XI]
 .rw[←h.ord];obtain⟨k,hk⟩:∃k,g.length-out.length=k+1:=⟨g.length-out.length-1,by omega⟩;rw[hk,kab,Cab,show g.length-(out.length+1)=k by omega];have hf:(Kaa g.length).find? (fD g out)=some d:=by
   have hr:∀e:Nat,e<g.length->(fD g out e=true↔(e:Int)∈yW g out):=by
    intro e he;unfold yW
    grind
   rw[List.find?_range_eq_some]
   grind
  rw[iv,hf]
end Go.Proofs.Dev
set_option maxRecDepth 100000
namespace Go.Proofs.Dev
open Go Go.Tm
noncomputable def Qi(j:List Int):((List Bool)×(List Int)×Int)->Option (Ex ((List Bool)×(List Int)×Int) ((List Bool)×(List Int)) Unit):=λ(c,f,a)=>
 if a<(j.length:Int)then
  Aaa (
   (idx j a).bind λb=>
   (idx c b).bind λg=>
   if g=false then
    (put c b true).bind λh=>
    (app 8 f ([b])).bind λi=>
    some (h,i)
   else
   some (c,f)) λ(d,e)=>
  some (Ex.go (d,e,(aa .i64 (a+1))))
 else
 some (Ex.brk (c,f))
noncomputable def Fg(t0:(List (List Int))):((List Bool)×(List Int))->Option (Ex ((List Bool)×(List Int)) (List Bool) Unit):=λ(s2,c)=>
 if 0<(c.length:Int)then
  (idx c 0).bind λd=>
  (dH c 1).bind λe=>
  (idx t0 d).bind λf=>
  (ca (Qi f) (s2,e,0)).bind λy=>match y with
  |.inr _=>none
  |.inl (a,b)=>
  some (Ex.go (a,b))
 else
 some (Ex.brk s2)
noncomputable def Ri(c:List Bool):((List Int)×Int)->Option (Ex ((List Int)×Int) (List Int) Unit):=λ(b,a)=>
 if a<(c.length:Int)then
  Aaa (
   (idx c a).bind λe=>
   if e=true then
    (app 8 b ([a])).bind λf=>
    some f
   else
   some b) λd=>
  some (Ex.go (d,(aa .i64 (a+1))))
 else
 some (Ex.brk b)
noncomputable def Yu(t0:(List (List Int))) (t1:Int):Option (List Int):=
 (UB 1 false (t0.length:Int) (t0.length:Int)).bind λc=>
 (ca (Fg t0) (c,[t1])).bind λy=>match y with
 |.inr _=>none
 |.inl a=>
 (ca (Ri a) (([]:List Int),0)).bind λy=>match y with
 |.inr _=>none
 |.inl b=>
 some b
def visit(p:List Bool×List Int) (e:Int):List Bool×List Int:=if p.1[e.toNat]?=some true then p else(p.1.set e.toNat true,p.2++[e])
def Sn(s:List Bool) (b:Int):Prop:=s[b.toNat]?=some true
instance (s:List Bool) (b:Int):Decidable (Sn s b):=by unfold Sn;infer_instance
def cF(s:List Bool):Nat:=s.count false
theorem O3:∀{s:List Bool}{i:Nat},s[i]?=some false->cF (s.set i true)+1=cF s
 |[],i,h=>by simp at h
 |b::s,0,h=>by simp at h;subst h;simp[cF]
 |b::s,i+1,h=>by
  have:=O3 (s:=s) (i:=i) (by simpa using h);unfold cF at this⊢;simp only[List.set_cons_succ,List.count_cons];omega
theorem cF_le(s:List Bool):cF s<=s.length:=List.count_le_length
structure Ok (n:Nat) (p:List Bool×List Int):Prop where
 len:p.1.length=n
 q:∀x∈p.2,0<=x/\x<n
 m:p.2.length+cF p.1<=n+1
theorem lS{n:Nat}{p:List Bool×List Int}{e:Int}(h:Ok n p) (f:0<=e) (g:e<n) :
 Ok n (visit p e)/\(visit p e).2.length+cF (visit p e).1=p.2.length+cF p.1/\(∀b,0<=b->(Sn (visit p e).1 b↔Sn p.1 b\/b=e))/\(∀x,x∈(visit p e).2↔x∈p.2\/(x=e/\¬Sn p.1 e)):=by
 unfold visit;split
 .rename_i c;refine⟨h,rfl,λb hb=>⟨.inl,λh=>?_⟩,λx=>⟨.inl,λh=>?_⟩⟩
  .rcases h with h|rfl
   .exact h
   .exact c
  .rcases h with h|⟨rfl,h⟩
   .exact h
   .exact(h c).elim
 .rename_i c;have d:e.toNat<p.1.length:=by rw[h.len];omega
  have hf:p.1[e.toNat]?=some false:=by
   rw[Baa d]at c⊢
   cases hb:p.1[e.toNat]with
   |true=>rw[hb]at c;exact(c rfl).elim
   |false=>rfl
  have hc:=O3 hf;have hm:=h.m;refine⟨⟨by simp[h.len],λx hx=>?_,?_⟩,?_,λb hb=>?_,λx=>?_⟩
  .rcases tab.1 hx with hx|hx
   .exact h.q x hx
   .rw[Nab]at hx;subst hx;exact⟨f,g⟩
  .simp only[kab,Cab];omega
  .simp only[kab,Cab];omega
  .unfold Sn;rw[List.getElem?_set];by_cases a:e.toNat=b.toNat
   .rw[if_pos a,if_pos d];exact⟨λ_=>.inr (by omega),λ_=>rfl⟩
   .rw[if_neg a];exact⟨.inl,λh=>h.elim id λh=>(a (by rw[h])).elim⟩
  .rw[tab,Nab];exact⟨λh=>h.imp id λh=>⟨h,c⟩,λh=>h.imp id λh=>h.1⟩
theorem ON{n:Nat}:∀{l:List Int}{p:List Bool×List Int},Ok n p->(∀e∈l,0<=e/\e<n)->
 Ok n (l.foldl visit p)/\(l.foldl visit p).2.length+cF (l.foldl visit p).1=p.2.length+cF p.1/\(∀b,0<=b->(Sn (l.foldl visit p).1 b↔Sn p.1 b\/b∈l))/\(∀x,x∈(l.foldl visit p).2↔x∈p.2\/(x∈l/\¬Sn p.1 x))
 |[],p,h,_=>by simp[h]
 |e::l,p,h,hl=>by
  obtain⟨j,k⟩:=hl e (by simp);obtain⟨a1,a2,a3,a4⟩:=lS h j k;obtain⟨f,b2,g,i⟩:=ON a1 (λx hx=>hl x (by simp[hx])) (l:=l);simp only[bac];refine⟨f,by omega,λb hb=>?_,λx=>?_⟩
  .rw[g b hb,a3 b hb,Tab];constructor
   .rintro((h|h)|h)
    .exact .inl h
    .exact .inr (.inl h)
    .exact .inr (.inr h)
   .rintro(h|h|h)
    .exact .inl (.inl h)
    .exact .inl (.inr h)
    .exact .inr h
  .rw[i x,a4 x,Tab];constructor
   .rintro((h|⟨rfl,h⟩)|⟨h,a⟩)
    .exact .inl h
    .exact .inr ⟨.inl rfl,h⟩
    .exact .inr ⟨.inr h,λd=>a ((a3 x (hl x (by simp[h])).1).2 (.inl d))⟩
   .rintro(h|⟨rfl|h,a⟩)
    .exact .inl (.inl h)
    .exact .inl (.inr ⟨rfl,a⟩)
    .by_cases c:x=e
     .subst c;exact .inl (.inr ⟨rfl,a⟩)
     .exact .inr ⟨h,λd=>((a3 x (hl x (by simp[h])).1).1 d).elim a c⟩
theorem iX{i:Int}(h0:0<=i) (h1:i<9223372036854775807):aa .i64 (i+1)=i+1:=Rx ⟨by omega,by omega⟩
theorem L4_eq{n:Nat}(hn:n<=1048576) {l:List Int}(hl:l.length<=1048576) (c:∀e∈l,0<=e/\e<n):∀(k:Nat) {p:List Bool×List Int}{i:Nat},l.length-i=k->Ok n p->
 ca (Qi l) (p.1,p.2,(i:Int))=some (.inl ((l.drop i).foldl visit p))
 |0,p,i,hk,d=>by
  rw[Dac (by omega)];refine vc ?_;unfold Qi;simp only;rw[if_neg (by omega)];rfl
 |k+1,p,i,hk,d=>by
  have hi:i<l.length:=by omega
  obtain⟨f,g⟩:=c l[i] (Iaa hi);have a:l[i].toNat<p.1.length:=by rw[d.len];omega
  rw[mab hi,bac];have b:Qi l (p.1,p.2,(i:Int))=some (.go ((visit p l[i]).1,(visit p l[i]).2,((i+1:Nat):Int))):=by
   unfold Qi;simp only;rw[if_pos (by omega)];have e1:idx l (i:Int)=some l[i]:=by simp[idx,hi]
   have e2:idx p.1 l[i]=some p.1[l[i].toNat]:=by simp[idx,f,a]
   have e3:aa .i64 ((i:Int)+1)=((i+1:Nat):Int):=by rw[iX (by omega) (by omega)];omega
   rw[e1,zaa,e2,zaa,e3];unfold visit;rw[Baa a]
   cases hb:p.1[l[i].toNat]with
   |true=>simp
   |false=>
    have e4:put p.1 l[i] true=some (p.1.set l[i].toNat true):=by simp[put,f,a]
    have e5:app 8 p.2 [l[i]]=some (p.2++[l[i]]):=by
     have hm:=d.m;unfold app;rw[if_pos];simp only[Cab];omega
    rw[if_pos rfl,e4,zaa,e5];simp
  rw[yg b];exact L4_eq hn hl c k (i:=i+1) (by omega) (lS d f g).1
def Reach1(g:List (List Int)) (a b:Int):Prop:=b=a\/ReachL g a b
structure Bfs (g:List (List Int)) (a:Int) (p:List Bool×List Int):Prop where
 ok:Ok g.length p
 sound:∀b,0<=b->Sn p.1 b->ReachL g a b
 qs:∀x∈p.2,Reach1 g a x
 done:∀b,0<=b->(b=a\/Sn p.1 b)->b∈p.2\/∀l,g[b.toNat]?=some l->∀c∈l,Sn p.1 c
theorem L7_eq{g:List (List Int)}{a:Int}(hn:g.length<=1048576) (y:∀l∈g,l.length<=1048576/\∀e∈l,0<=e/\e<g.length):∀(k:Nat) {p:List Bool×List Int},p.2.length+cF p.1=k->Bfs g a p->
 ∃s,ca (Fg g) p=some (.inl s)/\Bfs g a (s,[]):=by
 intro k
 induction k with
 |zero=>
  intro p hk f;obtain⟨s,q⟩:=p;have:q=[]:=Uaa (by dsimp only at hk;omega);subst this;exact⟨s,vc (by simp[Fg]),f⟩
 |succ k A=>
  intro p hk f;obtain⟨s,q⟩:=p
  cases q with
  |nil=>exact⟨s,vc (by simp[Fg]),f⟩
  |cons d q=>
   obtain⟨z,d1⟩:=f.ok.q d (by simp);have hd:d.toNat<g.length:=by omega
   obtain⟨gl,ge⟩:=y g[d.toNat] (Iaa hd);have o:Ok g.length (s,q):=⟨f.ok.len,λx hx=>f.ok.q x (by simp[hx]),by have:=f.ok.m;simp only[bab]at this⊢;omega⟩;obtain⟨B,C,t,w⟩:=ON o ge (l:=g[d.toNat]);have j:Fg g (s,d::q)=some (.go (g[d.toNat].foldl visit (s,q))):=by
    unfold Fg;simp only;rw[if_pos (by simp)];have e1:idx (d::q) 0=some d:=rfl;have e2:dH (d::q) 1=some q:=by simp[dH]
    have e3:idx g d=some g[d.toNat]:=by simp[idx,z,hd]
    have e4:=L4_eq hn gl ge _ (p:=(s,q)) (i:=0) rfl o;simp only[List.drop_zero,Cad]at e4;rw[e1,zaa,e2,zaa,e3,zaa,e4];rfl
   rw[yg j];have v:q.length+cF s=k:=by simp only[bab]at hk;omega
   refine A (by rw[C];exact v) ⟨B,λb hb r=>?_,λx hx=>?_,λb hb u=>?_⟩
   .rcases(t b hb).1 r with h|h
    .exact f.sound b hb h
    .rcases f.qs d (by simp)with rfl|hr
     .exact .one (Baa hd) h
     .exact .step hr (Baa hd) h
   .rcases(w x).1 hx with h|⟨h,-⟩
    .exact f.qs x (by simp[h])
    .right;rcases f.qs d (by simp)with rfl|hr
     .exact .one (Baa hd) h
     .exact .step hr (Baa hd) h
   .have up:∀c,0<=c->Sn s c->Sn (g[d.toNat].foldl visit (s,q)).1 c:=λc hc h=>(t c hc).2 (.inl h);by_cases n:b=d
    .subst n;right;intro l hl c hc;rw[Baa hd]at hl;injection hl with hl;subst hl;exact(t c (ge c hc).1).2 (.inr hc)
    .have key:(b=a\/Sn s b)\/(b∈g[d.toNat]/\¬Sn s b):=by
      rcases u with h|h
      .exact .inl (.inl h)
      .rcases(t b hb).1 h with h|h
       .exact .inl (.inr h)
       .by_cases r:Sn s b
        .exact .inl (.inr r)
        .exact .inr ⟨h,r⟩
     rcases key with h|h
     .rcases f.done b hb h with h|h
      .rcases Tab.1 h with h|h
       .exact(n h).elim
       .exact .inl ((w b).2 (.inl h))
      .right;intro l hl c hc;have hm:l∈g:=Hab hl;exact up c ((y l hm).2 c hc).1 (h l hl c hc)
     .exact .inl ((w b).2 (.inr h))
theorem L6_eq{s:List Bool}(e:s.length<=1048576):∀(k:Nat) {i:Nat},s.length-i=k->i<=s.length->
 ca (Ri s) (((Kaa i).map λ(k:Nat)=>(k:Int)).filter (λb=>decide (Sn s b)),(i:Int))=some (.inl (((Kaa s.length).map λ(k:Nat)=>(k:Int)).filter λb=>decide (Sn s b)))
 |0,i,hk,hi=>by
  have:i=s.length:=by omega
  subst this;refine vc ?_;unfold Ri;simp
 |k+1,i,hk,hi=>by
  have a:i<s.length:=by omega
  have hlen:(((Kaa i).map λ(k:Nat)=>(k:Int)).filter (λb=>decide (Sn s b))).length<=i:=Bab (Yaa _ _) (by simp);have d:Ri s (((Kaa i).map λ(k:Nat)=>(k:Int)).filter (λb=>decide (Sn s b)),(i:Int))=some (.go (((Kaa (i+1)).map λ(k:Nat)=>(k:Int)).filter (λb=>decide (Sn s b)),((i+1:Nat):Int))):=by
   unfold Ri;simp only;rw[if_pos (by omega)];have e1:idx s (i:Int)=some s[i]:=by simp[idx,a]
   have e3:aa .i64 ((i:Int)+1)=((i+1:Nat):Int):=by rw[iX (by omega) (by omega)];omega
   rw[e1,zaa,e3,aad,List.map_append,uab]
   cases hb:s[i]with
   |true=>
    have c:Sn s ((i:Nat):Int):=by unfold Sn;simp[a,hb]
    have e5:app 8 (((Kaa i).map λ(k:Nat)=>(k:Int)).filter (λb=>decide (Sn s b))) [(i:Int)]=some (((Kaa i).map λ(k:Nat)=>(k:Int)).filter (λb=>decide (Sn s b))++[(i:Int)]):=by
     unfold app;rw[if_pos];simp only[Cab];omega
    rw[if_pos rfl,e5];simp[c]
   |false=>
    have c:¬Sn s ((i:Nat):Int):=by unfold Sn;simp[a,hb]
    rw[if_neg (by simp)];simp[c]
  rw[yg d];exact L6_eq e k (i:=i+1) (by omega) (by omega)
theorem mZ{t0:List (List Int)}{t1:Int}{r:List Int}(h:qk t0 t1=some r):Yu t0 t1=some r:=by
 unfold qk at h;split at h
 .rename_i hc;obtain⟨hn,l,m,o⟩:=hc;obtain rfl:=wab h;unfold Yu;have e1:UB 1 false (t0.length:Int) (t0.length:Int)=some (Daa t0.length false):=by
   unfold UB;rw[if_pos ⟨by omega,by omega,by omega,by simp;omega⟩];simp
  have hb:Bfs t0 t1 (Daa t0.length false,[t1]):=by
   have f:∀b,¬Sn (Daa t0.length false) b:=λb hb=>by
    unfold Sn at hb;rw[List.getElem?_replicate]at hb;split at hb<;>simp at hb
   refine⟨⟨by simp,λx hx=>?_,?_⟩,λb _ g=>(f b g).elim,λx hx=>?_,λb _ g=>?_⟩
   .rw[Nab]at hx;subst hx;exact⟨m,o⟩
   .have:=cF_le (Daa t0.length false);simp only[List.length_replicate,Cab]at this⊢;omega
   .rw[Nab]at hx;exact .inl hx
   .rcases g with rfl|g
    .exact .inl (by simp)
    .exact(f b g).elim
  obtain⟨s,e2,hb⟩:=L7_eq hn l _ rfl hb;have e:s.length=t0.length:=hb.ok.len;have e3:=L6_eq (s:=s) (by omega) _ (i:=0) rfl (by omega);simp only[List.range_zero,Zac,List.filter_nil,Cad]at e3;rw[e1,zaa,e2,zaa];simp only;rw[e3,zaa];simp only;rw[e];unfold DK;congr 1;apply Wad;intro b j;obtain⟨k,-,rfl⟩:=pac.1 j;have c:∀b,ReachL t0 t1 b->0<=b/\Sn s b:=by
   intro b hr
   induction hr with
   |one h d=>
    have hm:=Hab h;refine⟨((l _ hm).2 _ d).1,?_⟩;rcases hb.done t1 m (.inl rfl)with a|a
    .cases a
    .exact a _ h _ d
   |step _ hl hc n=>
    have hm:=Hab hl;refine⟨((l _ hm).2 _ hc).1,?_⟩;rcases hb.done _ n.1 (.inr n.2)with a|a
    .cases a
    .exact a _ hl _ hc
  exact decide_eq_decide.2 ⟨λh=>hb.sound _ (by omega) h,λh=>(c _ h).2⟩
 .cases h
end Go.Proofs.Dev
set_option maxRecDepth 10000
namespace Go.Proofs.Dev
open Go Go.Tm
variable {l:List GFact}
def MN:GRule:=GRule.mk (Gaa #[98,97,115,101]) 0 (-1) 0 (GDateRange.mk 0 109573) ([]) ([(GNode.mk 7 0)]) (Gaa #[])
def Jh:GScope:=GScope.mk (Gaa #[104,111,117,115,101]) (-1) ([(GField.mk (Gaa #[97]) (GType.mk 3 0))]) ([(GField.mk (Gaa #[100]) (GType.mk 3 0))]) [MN]
def lg:GLaw:=GLaw.mk ([]) ([]) [Jh]
def Iy:GFact:=GFact.mk 0 (-1) 0 (GValue.mk 3 0 500) (GDateRange.mk 0 109573) 0
def br(l:List GFact):GHousehold:=GHousehold.mk 0 0 0 l
def WH:GPayConfig:=GPayConfig.mk 0 0 1 0 0 0 0 (GCalendar.mk 0 ([]))
def XF:GEnv:=⟨90,[⟨3,0,500⟩],[⟨0,0,0⟩],[],[],[]⟩
theorem tiny_sc:Ej lg 0 Jh=(0,0):=by
 have hc:ff (dI Jh) Jh.d.length=none:=ab.2 λi hi=>by
  have:i=0:=by grind[Jh]
  subst this;unfold dI;rw[if_neg];rw[←yy];have:(MC Jh 0 Jh.d.length).contains 0=false:=by kernel_rfl
  simp_all
 unfold Ej;rw[hc];rfl
theorem wL:cn lg=⟨0,0,0,0⟩:=by
 unfold cn;simp only[show lg.q.length=0 from rfl,show lg.Tables.length=0 from rfl,show lg.e.length=1 from rfl,ff];rw[show lg.e[0]?=some Jh from rfl]
 grind[tiny_sc]
theorem waa:o6 lg (br [])=(0,0):=by kernel_rfl
theorem dS:o6 lg (br [Iy])=(0,0):=by kernel_rfl
theorem nP:Va 3=(⟨90,120⟩,0):=by kernel_rfl
theorem LC:LawOk lg:=by
 have a:ScOk Jh:=by constructor<;>simp[Jh,MN]
 constructor<;>simp[lg,a];simp[Jh,MN,Kb]
 decide
theorem vaa:FewR lg:=by constructor<;>simp[lg,Jh]
theorem taa:kh WH.ar=some true:=by
 unfold kh;rw[vc (step:=fc WH.ar) (b:=()) rfl];rfl
theorem cS(h:o6 lg (br l)=(0,0)):Ae lg (br l) WH=some true:=by
 unfold Ae Ra;rw[ym LC,xk _ _ LC.ns,h,wL,taa];rfl
theorem paa(i:Int):gG [] (-1) i 90 10=(⟨0,0,0⟩,false):=by
 rcases(BM (l:=[]) (by simp) (-1) i 90 10).2 with⟨e,-⟩|⟨f,h,-⟩
 all_goals simp_all
theorem qaa:gG [Iy] (-1) 0 90 10=(⟨3,0,500⟩,true):=by
 rcases(BM (l:=[Iy]) (by simp) (-1) 0 90 10).2 with⟨-,e⟩|⟨f,h,e,-⟩
 .have:=e Iy (by simp);exact absurd this (by decide)
 .rw[Nab]at h;rw[e,h];rfl
theorem XU:Hs lg Jh (br []) 90 10=(⟨0,[],[]⟩,6):=by
 grind[Hs,sq,Jh,br,paa]
theorem xE:Hs lg Jh (br [Iy]) 90 10=(⟨90,[⟨3,0,500⟩],[]⟩,0):=by
 have hm:Lp (br [Iy]) 90 10=[]:=by
  unfold Lp;rw[show(min (max (br [Iy]).r 0) 8).toNat=0 from rfl];rfl
 grind[Hs,sq,Jh,br,qaa]
theorem WZ:Wj [GNode.mk 7 0] XF=some (⟨3,0,500⟩,0):=by
 have hw:Wst [GNode.mk 7 0]:=nH (by kernel_rfl);have hN:∀n∈[GNode.mk 7 0],Kb n:=by simp[Kb]
 have he:EnvOk XF:=⟨by simp[XF],by simp[XF]⟩;have ha:Fi [GNode.mk 7 0] 0=0:=by decide
 rw[(dV hN he hw).1];show some (MI [GNode.mk 7 0] XF 0)=_;rw[(w7 hw hN he 0 (by decide)).q];unfold evQ lG;rw[if_neg (by decide),ha];show some ((Ff ⟨7,0⟩ [] XF).getD (⟨0,0,0⟩,0))=_;unfold Ff;rw[wG,sn,Sy,B3 (by simp)];rfl
theorem xaa:He Jh XF (-1) 0=some (0,vP):=by
 unfold He;rw[Yr (by decide),zaa,show yL Jh 0 XF.ae=([0],[-1],[0]) by kernel_rfl];dsimp only;rw[show UB 1 false (([0]:List Int).length:Int) (([0]:List Int).length:Int)=some [false] by rfl,zaa,yg (s':=([true],1)) rfl,vc (b:=[true]) rfl,zaa];dsimp only;rw[iu,zaa,show dP [-1] [0] [true]=0 by kernel_rfl];rfl
theorem YU:Ca Jh ⟨90,[⟨3,0,500⟩],[],[],[],[]⟩ (-1) [true]=some (([0],vP),⟨90,[⟨3,0,500⟩],[⟨3,0,500⟩],[],[],[]⟩):=by
 unfold Ca;rw[show UB 24 (GValue.mk 0 0 0) (Jh.d.length:Int) (Jh.d.length:Int)=some [⟨0,0,0⟩] by rfl,zaa,show UB 8 (0:Int) (Jh.d.length:Int) (Jh.d.length:Int)=some [0] by rfl,zaa,rn (LC.s Jh (by simp[lg])).2.1,zaa,show Qu (Sj Jh)=([0],0) by kernel_rfl];rw[yg (s':=([⟨3,0,500⟩],[0],1)) (by
  unfold cc;dsimp only;rw[if_pos (by decide),show idx ([0]:List Int) 0=some 0 by rfl,zaa,show idx [true] 0=some true by rfl,zaa,if_neg (by decide)];rw[show GEnv.mk 90 [⟨3,0,500⟩] [⟨0,0,0⟩] [] [] []=XF from rfl,xaa,zaa,if_neg (by decide),if_neg (by decide),if_neg (by decide),show idx Jh.f 0=some MN by rfl,zaa,show MN.Value=[GNode.mk 7 0]from rfl,WZ];rfl),vc (b:=([⟨3,0,500⟩],[0])) rfl]
 rfl
theorem uaa:bc lg 0 ⟨90,[⟨3,0,500⟩],[]⟩ 0=some (⟨3,0,500⟩,0,vP):=by
 obtain⟨j,g⟩:=NI (l:=lg) (h:=br [Iy]) (by rw[dS]);have e:j=0:=by have:=g.sc;grind[br]
 subst e;have f:(cn lg).Code=0:=by rw[wL]
 have a:=(aO LC f g (d:=90) (r:=10) (def_:=0) (by grind[lg,xE]) (by simp[lg,Jh])).1;rw[show lg.e[0]=Jh from rfl,xE]at a;have c:∀x∈lg.e,x.f.length<=64:=by simp[lg,Jh]
 dsimp only at a;refine(dJ LC (rC f) c (i:=0) (by decide) (d:=0) (by simp[lg,Jh]) a).trans ?_;rw[show pW lg 0 (by decide) 0=⟨Jh,⟨Gaa #[],0,[],[],[]⟩,[true],[]⟩ by kernel_rfl];unfold eg;rw[vc (b:=[]) rfl,zaa];dsimp only;rw[vc (b:=([],[])) rfl,zaa];dsimp only;rw[show Ca Jh ⟨90,[⟨3,0,500⟩],[],[],[],lg.Tables⟩ (-1) [true]=_ from YU];rfl
theorem ZW(h:l=[]\/l=[Iy]):pP lg (br l) 10=[]:=by
 rcases h with rfl|rfl<;>kernel_rfl
theorem raa:awS lg (br []) WH 3 10=⟨3,0,6⟩:=by
 have b:kc lg 0 (br []) 0 10 90=(⟨0,0,0⟩,6):=by
  unfold kc;rw[show lg.e[0]?=some Jh from rfl]
  simp_all[XU]
 have a:AS lg (br []) 3 10=[⟨90,120⟩]:=by unfold AS;rw[ZW (.inl rfl),nP];rfl
 unfold awS;rw[nP,if_neg (by decide),cS waa,Lab,if_neg (by decide),a];unfold QL;simp only[bab,sab,ff,oab];rw[show(br []).ah.toNat=0 from rfl,show WH.s=0 from rfl,b];rfl
theorem saa:awS lg (br [Iy]) WH 3 10=⟨3,500,0⟩:=by
 have b:kc lg 0 (br [Iy]) 0 10 90=(⟨3,0,500⟩,0):=by
  unfold kc;rw[show lg.e[0]?=some Jh from rfl];dsimp only;rw[xE,if_neg (by decide)];dsimp only;rw[show((0:Nat):Int)=0 from rfl,uaa];rfl
 have a:AS lg (br [Iy]) 3 10=[⟨90,120⟩]:=by unfold AS;rw[ZW (.inr rfl),nP];rfl
 unfold awS;rw[nP,if_neg (by decide),cS dS,Lab,if_neg (by decide),a];unfold QL Tw;simp only[bab,sab,ff,oab,List.map_cons,Zac];rw[show(br [Iy]).ah.toNat=0 from rfl,show WH.s=0 from rfl,b];rfl
theorem LP:Ip=some true:=by
 unfold Ip Rw Ft
 grind[br,Iy,WH,lg,Jh,MN,SS,LC,vaa,saa,raa]
end Go.Proofs.Dev
