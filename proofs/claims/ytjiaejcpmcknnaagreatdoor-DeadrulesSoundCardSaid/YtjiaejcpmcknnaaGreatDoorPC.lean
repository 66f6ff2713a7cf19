/-
  The functions as plain partial functions, and plain lemmas about them: no condition.
-/
import Derived.Test.YtjiaejcpmcknnaaGreatDoorPB
import Derived.Test.YtjiaejcpmcknnaaGreatDoorPA
open Bool renaming and_eq_true->Vaa,eq_false_iff->Iac,false_eq_true->Saa,not_true->yac,true_and->Iab,true_eq_false->jab
open Classical renaming not_not->cab
open Decidable renaming not_not->xad
open Int renaming eq_ofNat_of_zero_le->fac,mul_le_mul->kad,mul_nonneg->Pae,natAbs_mul->lae,natCast_one->bae,reduceBEq->Waa,reduceEq->Taa,tdiv->iab,tdiv_eq_ediv_of_nonneg->Had,tmod->pab,toNat_natCast->wac
open List renaming any_eq_false->Pad,append_assoc->Oab,drop_eq_getElem_cons->Fab,ext_getElem->Sab,filter_append->aac,getElem?_append_right->vac,getElem?_eq_getElem->Maa,getElem_mem->Qaa,getElem_set_self->cae,length_append->uab,length_cons->sab,length_filter_le->Pab,length_nil->Xab,length_replicate->Gab,length_singleton->Hab,map_append->Tab,mem_of_getElem?->qab,range->Zaa,replicate->Oaa,replicate_succ->cac,replicate_succ'->hac,set_append_right->zad,take_add_one->tab
open Nat renaming add_sub_cancel->uae,div_le_self->rad,le_refl->dab,le_trans->dac,mod_lt->Rac,mul_le_mul->Zac,mul_le_mul_right->rab,strongRecOn->tad,sub_self->Cac,succ_mul->Jad,zero_add->eac
open Option renaming any_some->Yab,bind->Laa,bind_some->Kaa,toList_some->Vab
open Option.some renaming inj->oab,injEq->wab
set_option linter.all false
set_option maxRecDepth 10000
set_option maxHeartbeats 1000000
namespace Go.Proofs.Dev
open Go Go.Tm
def neB(r:GDateRange):Bool:=decide (0<=r.From)&&(decide (r.To<=109573)&&decide (r.From<r.To))
def ends:List GDateRange->List Int
 |[]=>[]
 |r::l=>(if neB r=true then [r.From,r.To]else [])++ends l
theorem bN{α β:Type}{n:Nat}{l:List α}(hn:n=l.length) {step:List β×Int->Option (Ex (List β×Int) (List β) Unit)}(g:List α->List β) (x0:List β)
 (a:∀i (h:i<l.length),step (x0++g (l.take i),(i:Int))=some (.go (x0++g (l.take (i+1)),((i+1:Nat):Int)))) (hend:∀x,step (x,(n:Int))=some (.brk x)) (h0:g []=[]):da step (x0,0)=some (.inl (x0++g l)):=by
 subst hn;refine Rc (λi=>(x0++g (l.take i),(i:Int))) l.length _ (λi hi=>a i hi) ?_ (by grind)
 simp_all
def known(t1:Int) (f:GFact):Bool:=decide (f.Recorded<=t1)&&neB f.Valid
def EG(y:Int):Bool:=decide (y % 4=0)&&(!decide (y % 100=0) || decide (y % 400=0))
def cn(y m:Int):Int:=if m=2 then(if EG y=true then 29 else 28)else if m=4\/m=6\/m=9\/m=11 then 30 else 31
def Rq(y:Int):Nat->Int
 |0=>0
 |n+1=>Rq y n+cn y (n+1)
def Vj:Nat->Int
 |0=>0
 |n+1=>Vj n+(if EG (1900+n)=true then 366 else 365)
theorem DX{a b:Int}(h:0<=a):a.tmod b=a % b:=Int.tmod_eq_emod_of_nonneg h
theorem WH{a b:Int}(h:0<=a):a.tdiv b=a / b:=Had h
theorem rI{y:Int}(h:0<=y):Ur y=some (EG y):=by
 grind[Ur,EG]
theorem wh{y m:Int}(h:0<=y) (h1:1<=m) (h2:m<=12):oe y m=some (cn y m):=by
 unfold oe cn;rw[if_pos (by omega),Kaa,if_neg (by simp_all),rI h];rw[wid (by omega) (by omega)];have:m=1\/m=2\/m=3\/m=4\/m=5\/m=6\/m=7\/m=8\/m=9\/m=10\/m=11\/m=12:=by omega
 rcases this with rfl|rfl|rfl|rfl|rfl|rfl|rfl|rfl|rfl|rfl|rfl|rfl<;>first|(cases EG y<;>simp[idx,mL])|simp[idx,mL]
theorem Dt{y m:Int}:28<=cn y m/\cn y m<=31:=by
 grind[cn]
theorem Xy{y:Int}:∀n,0<=Rq y n/\Rq y n<=31*n
 |0=>by simp[Rq]
 |n+1=>by
  have:=Xy (y:=y) n;have:=Dt (y:=y) (m:=n+1)
  grind[Rq]
theorem Oy:∀n,0<=Vj n/\Vj n<=366*n
 |0=>by simp[Vj]
 |n+1=>by
  have:=Oy n
  grind[Vj]
theorem iI:∀n:Nat,Vj n=365*n+((1899+n:Int) / 4-(1899+n:Int) / 100+(1899+n:Int) / 400)-460
 |0=>by simp[Vj]
 |n+1=>by
  simp only[Vj,iI n,EG]
  grind
theorem Wn{n:Nat}(h:n<=1000):xh (1900+n)=some (Vj n):=by
 unfold xh Ym;simp only[Kaa];have b:ca .i64 ((1900+(n:Int))-1)=1899+n:=by grind[wid]
 have c:ca .i64 ((1900+(n:Int))-1900)=n:=by grind[wid]
 rw[b,c];rw[WH (a:=1899+(n:Int)) (by omega),WH (a:=1899+(n:Int)) (by omega),WH (a:=1899+(n:Int)) (by omega)]
 grind[iI,wid]
def Jw(n m:Nat):Int:=Vj n+Rq (1900+n) m
theorem SJ:Vj 300=109573:=by grind[iI]
theorem dim_c(y:Int):cn y 1=31/\cn y 3=31/\cn y 4=30/\cn y 5=31/\cn y 6=30/\cn y 7=31/\cn y 8=31/\cn y 9=30/\cn y 10=31/\cn y 11=30/\cn y 12=31:=by
 simp[cn]
theorem NZ(y:Int):Rq y 12=if EG y=true then 366 else 365:=by
 obtain⟨h1,h3,h4,h5,h6,h7,h8,h9,h10,h11,h12⟩:=dim_c y;have e:Rq y 12=0+cn y 1+cn y 2+cn y 3+cn y 4+cn y 5+cn y 6+cn y 7+cn y 8+cn y 9+cn y 10+cn y 11+cn y 12:=rfl
 grind[cn]
theorem jI(n:Nat):Vj (n+1)=Vj n+Rq (1900+n) 12:=by
 rw[NZ];rfl
theorem Sw:∀{i j:Nat},i<=j->Vj i<=Vj j:=by
 intro i j h
 induction h with
 |refl=>omega
 |step h ih=>
  grind[Vj]
theorem BJ{y:Int}:∀{i j:Nat},i<=j->Rq y i<=Rq y j:=by
 intro i j h
 induction h with
 |refl=>omega
 |step h ih=>
  rename_i j;have:=Dt (y:=y) (m:=j+1)
  grind[Rq]
theorem ZP{t:Int}(c:0<=t):∀N,t<Vj N->∃n,n<N/\Vj n<=t/\t<Vj (n+1)
 |0,h=>by grind[Vj]
 |N+1,h=>by
  by_cases d:t<Vj N
  .obtain⟨n,a,b⟩:=ZP c N d
   grind
  grind
theorem FM{y t:Int}(c:0<=t):∀N,t<Rq y N->∃n,n<N/\Rq y n<=t/\t<Rq y (n+1)
 |0,h=>by grind[Rq]
 |N+1,h=>by
  by_cases d:t<Rq y N
  .obtain⟨n,a,b⟩:=FM c N d
   grind
  grind
structure Ymd (t:Int) (n m:Nat) (k:Int):Prop where
 hn:n<300
 hm:m<12
 hk:0<=k/\k<cn (1900+n) (m+1)
 ht:t=Jw n m+k
theorem DL{t:Int}(d:0<=t) (h1:t<=109572):∃n m k,Ymd t n m k:=by
 obtain⟨n,a,a2,b⟩:=ZP d 300 (by grind[SJ]);rw[jI]at b;obtain⟨m,c,b2,b3⟩:=FM (y:=1900+n) (t:=t-Vj n) (by omega) 12 (by omega);refine⟨n,m,t-Vj n-Rq (1900+n) m,a,c,⟨by omega,?_⟩,by grind[Jw]⟩
 grind[Rq]
theorem Ymd.year{t n m k}(h:Ymd t n m k):Vj n<=t/\t<Vj (n+1):=by
 obtain⟨h1,h2,h3,h4⟩:=h;have:=(Xy (y:=1900+n) m).1;have h5:=BJ (y:=1900+n) (i:=m+1) (j:=12) (by omega)
 grind[Rq,Jw,jI]
theorem Ymd.range{t n m k}(h:Ymd t n m k):0<=t/\t<=109572:=by
 have h1:=h.year;have:=Sw (i:=n+1) (j:=300) (by have:=h.hn;omega);rw[SJ]at this;have:=Oy n;omega
theorem dq(t:Int):Zm t=some (decide (0<=t/\t<=109572)):=by
 grind[Zm]
theorem loopR{σ β ρ:Type}{step:σ->Option (Ex σ β ρ)}{x0:σ}(S:Nat->σ) (n:Nat) (v:ρ) (hgo:∀i,i<n->step (S i)=some (.go (S (i+1)))) (hend:step (S n)=some (.ret v)) (a:x0=S 0):da step x0=some (.inr v):=by
 subst a;have:∀k j,j+k=n->da step (S j)=some (.inr v):=by
  intro k
  induction k with
  |zero=>simp_all[nr]
  |succ k ih=>grind[Ul]
 simp_all
theorem Ct{t n m k}(h:Ymd t n m k):il t=some (1900+(n:Int),(m:Int)+1,k+1):=by
 have hr:=h.range;have hy:=h.year;unfold il;rw[dq,Kaa,if_neg (by simp_all)];have hq:t.tdiv 366=((t.toNat / 366:Nat):Int):=by grind
 have hle:t.toNat / 366<=n:=by
  have:=(Oy (n+1)).2;omega
 have a:da (tm t) (ca .i64 (1900+(ca .i64 (iab t 366))))=some (.inl (1900+(n:Int))):=by
  refine Rc (step:=tm t) (λi=>1900+((t.toNat / 366+i:Nat):Int)) (n-t.toNat / 366) _ (λi hi=>?_) ?_ ?_
  .unfold tm;have hm:=Sw (i:=t.toNat / 366+i+1) (j:=n) (by omega);have e:ca .i64 (1900+((t.toNat / 366+i:Nat):Int)+1)=1900+((t.toNat / 366+i+1:Nat):Int):=by
    rw[wid (by omega) (by have:=h.hn;omega)];omega
   rw[e,Wn (by have:=h.hn;omega),Kaa,if_pos (by omega)];rfl
  .unfold tm;have e:ca .i64 (1900+((t.toNat / 366+(n-t.toNat / 366):Nat):Int)+1)=1900+((n+1:Nat):Int):=by
    rw[wid (by omega) (by have:=h.hn;omega)];omega
   rw[e,Wn (by have:=h.hn;omega),Kaa,if_neg (by omega)]
   simp_all
  grind[wid]
 rw[a,Kaa];dsimp only;rw[Wn (by have:=h.hn;omega),Kaa];have ht:=h.ht;unfold Jw at ht;have hmm:=Xy (y:=1900+n) m;have hkk:=h.hk;have hdd:=Dt (y:=1900+n) (m:=m+1);have hyy:=Oy n;have hm12:=h.hm;have hn3:=h.hn;have e2:da (rm (1900+n)) (ca .i64 (t-Vj n),0)=some (.inr (1900+(n:Int),(m:Int)+1,k+1)):=by
  refine loopR (step:=rm (1900+n)) (λi=>(Rq (1900+n) m-Rq (1900+n) i+k,(i:Int))) m _ (λi hi=>?_) ?_ ?_
  .unfold rm;dsimp only;have b:=BJ (y:=1900+n) (i:=i+1) (j:=m) (by omega);have h3:=(Xy (y:=1900+n) i);have h4:=Dt (y:=1900+n) (m:=i+1);simp only[Rq]at b;rw[if_pos (by omega),ya (by omega),wh (by omega) (by omega) (by omega),Kaa];rw[show((i+1:Nat):Int)=(i:Int)+1 from rfl]at *;rw[if_neg (by omega),wid (by omega) (by omega)]
   grind[Rq]
  .unfold rm;dsimp only;rw[if_pos (by omega),ya (by omega),wh (by omega) (by omega) (by omega),Kaa];rw[show((m+1:Nat):Int)=(m:Int)+1 from rfl]at *;rw[if_pos (by omega),wid (by omega) (by omega)];simp
  grind[Rq,wid]
 simp_all
theorem OF{n m:Nat}{d:Int}(hn:n<300) (hm:m<12) (hd1:1<=d) (hd2:d<=cn (1900+n) (m+1)):bq (1900+n) (m+1) d=some (Jw n m+d-1,0):=by
 unfold bq;have hy:=Oy n;have hd:=Dt (y:=1900+n) (m:=(m:Int)+1);rw[if_pos (by omega),if_pos (by omega),if_pos (by omega),if_pos (by omega),if_pos (by omega),wh (by omega) (by omega) (by omega),Kaa,Kaa,if_neg (by simp_all),Wn (by omega),Kaa];have e:da (Di (1900+n) (m+1)) (Vj n,0)=some (.inl (Jw n m)):=Rc (step:=Di (1900+n) (m+1)) (λi=>(Vj n+Rq (1900+n) i,(i:Int))) m (Jw n m) (λi hi=>by
  unfold Di;dsimp only;rw[wid (n:=(m:Int)+1-1) (by omega) (by omega),if_pos (by omega),ya (by omega),wh (by omega) (by omega) (by omega),Kaa];have:=Xy (y:=1900+n) i;have:=Dt (y:=1900+n) (m:=((i+1:Nat):Int))
  grind[Rq,wid]) (by
  unfold Di;dsimp only;rw[wid (n:=(m:Int)+1-1) (by omega) (by omega),if_neg (by omega)];rfl) (by simp[Rq])
 rw[e];have:=Xy (y:=1900+n) m
 grind[Jw,wid]
def KT(n m:Nat) (k j:Int):Int×Int:=
 if 12*(n:Int)+m+j<0\/3599<12*(n:Int)+m+j then(0,3)else
 (Jw ((12*(n:Int)+m+j) / 12).toNat ((12*(n:Int)+m+j) % 12).toNat+min (k+1) (cn (1900+(12*(n:Int)+m+j) / 12) ((12*(n:Int)+m+j) % 12+1))-1,0)
theorem or3'{b c:Prop} [Decidable b] [Decidable c] {α:Type}{k:Bool->Option α}{x:Option Bool}(hx:x=some true):(Laa (α:=Bool) (x.bind λa=>if a=true then if¬b then some (decide c)else some true else some true) k)=k (decide (b\/c)):=by
 grind
theorem Nv{t n m k}(h:Ymd t n m k) {j:Int}(hj:-3600<=j/\j<=3600):Sf t j=some (KT n m k j):=by
 have hr:=h.range;have hkk:=h.hk;have hm12:=h.hm;have hn3:=h.hn;have hdd:=Dt (y:=1900+n) (m:=m+1);unfold Sf;rw[or3' (by grind[dq]),if_neg (by simp_all),Ct h,Kaa];have e:ca .i64 ((ca .i64 ((ca .i64 ((ca .i64 ((ca .i64 (1900+(n:Int)-1900))*12))+((m:Int)+1)))-1))+j)=12*(n:Int)+m+j:=by
  grind[wid]
 dsimp only;rw[e];unfold KT;generalize 12*(n:Int)+m+j=K at *;by_cases c:K<0
 .simp_all
 .rw[if_pos c,Kaa];by_cases h2:3599<K
  .simp_all
  .rw[if_neg (by simp_all),if_neg (by omega)];have a:ca .i64 (1900+ca .i64 (iab K 12))=1900+((K / 12).toNat:Int):=by
    grind[wid]
   have b:ca .i64 (pab K 12+1)=((K % 12).toNat:Int)+1:=by
    grind[wid]
   rw[a,b];have hd2:=Dt (y:=1900+((K / 12).toNat:Int)) (m:=((K % 12).toNat:Int)+1);rw[wh (by omega) (by omega) (by omega),Kaa,OF (by omega) (by omega) (by omega) (by omega),Kaa]
   grind
theorem NP{t n m k}(h:Ymd t n m k) {i:Nat}:(n+i<300->∃e,Ymd (KT n m k (12*i)).1 (n+i) m e/\(KT n m k (12*i)).2=0/\(i=0->(KT n m k (12*i)).1=t))/\(300<=n+i->KT n m k (12*i)=(0,3)):=by
 have hkk:=h.hk;have a:=h.hm;have hn3:=h.hn;constructor
 .intro hi;have b:(12*(n:Int)+m+12*i) / 12=((n+i:Nat):Int):=by omega
  have c:(12*(n:Int)+m+12*i) % 12=(m:Int):=by omega
  unfold KT;rw[if_neg (by omega),b,c];have hd2:=Dt (y:=1900+((n+i:Nat):Int)) (m:=(m:Int)+1);simp only[wac];refine⟨min (k+1) (cn (1900+((n+i:Nat):Int)) ((m:Int)+1))-1,⟨hi,a,by omega,by omega⟩,trivial,λd=>?_⟩;subst d;have:=h.ht
  grind
 grind[KT]
theorem I4(a b:Int):∃r,Ri a b=some r/\0<=r/\r<=300:=by
 unfold Ri;rw[dq,dq];by_cases d:¬(0<=a/\a<=109572)
 .grind
 have d:=xad.1 d;by_cases e:¬(0<=b/\b<=109572)
 .grind
 have e:=xad.1 e;rw[decide_eq_true d,decide_eq_true e];simp only[Kaa,if_true,yac,Saa,if_false];obtain⟨c,k,h,ha⟩:=DL d.1 d.2;obtain⟨f,mb,kb,hb⟩:=DL e.1 e.2;have hya:=ha.year;have hyb:=hb.year;have hna:=ha.hn;have g:=hb.hn;by_cases hab:b<a
 .simp_all
 .rw[if_neg (by simp_all),Ct ha,Kaa,Ct hb,Kaa];dsimp only;have hle:c<=f:=by
   rcases Nat.lt_or_ge f c with m|m
   .have:=Sw (i:=f+1) (j:=c) (by omega);omega
   omega
  obtain⟨Y,hY⟩:∃Y,f=c+Y:=⟨f-c,by omega⟩;subst hY;have l:ca .i64 (1900+((c+Y:Nat):Int)-(1900+(c:Int)))=(Y:Int):=by grind[wid]
  rw[l,wid (n:=12*(Y:Int)) (by omega) (by omega),Nv ha (by omega),Kaa];obtain⟨k',g1,g2,g3⟩:=(NP ha (i:=Y)).1 g;have below:∀i,i<Y->(KT c k h (12*(i:Int))).2=0/\(KT c k h (12*(i:Int))).1<=b:=by
   intro i hi;obtain⟨k2,q1,q2,-⟩:=(NP ha (i:=i)).1 (by omega);have:=q1.year;have:=Sw (i:=c+i+1) (j:=c+Y) (by omega);omega
  rw[if_pos g2,Kaa];by_cases hc:b<(KT c k h (12*(Y:Int))).1
  .rw[if_pos (by simp_all),Kaa];have hY0:Y≠0:=by
    omega
   obtain⟨Z,rfl⟩:∃Z,Y=Z+1:=⟨Y-1,by omega⟩
   grind[wid]
  grind
def Mz(r:GDateRange) (d:Int):Bool:=kT r&&(decide (r.From<=d)&&decide (d<r.To))
theorem Si(r:GDateRange) (d:Int):Uc r d=some (Mz r d):=by
 grind[Uc,Mz,iq]
theorem XC(r:GDateRange) (d:Int):Rh r d=some (Mz r d):=by
 grind[Rh,Mz,Lr]
def Cu(def_ date:Int) (r:GRule):Bool:=decide (r.Def=def_)&&Mz r.Valid date
def zi(rules:List GRule) (q:GRule->Bool):Nat->List Int×List Int×List Int
 |0=>([],[],Oaa rules.length 0)
 |i+1=>
  match rules[i]? with
  |none=>zi rules q i
  |some r=>
   let p:=zi rules q i
   let a:=if 0<=r.Parent/\r.Parent<(i:Int)then(p.2.2[r.Parent.toNat]?).getD 0 else -1
   if q r=true then(p.1++[(i:Int)],p.2.1++[a],(p.2.2.set i a).set i (p.1.length:Int))else(p.1,p.2.1,p.2.2.set i a)
theorem Jn{rules:List GRule}{q:GRule->Bool}:∀i,(zi rules q i).2.2.length=rules.length/\(zi rules q i).1.length<=i/\(zi rules q i).2.1.length=(zi rules q i).1.length
 |0=>by simp[zi]
 |i+1=>by
  obtain⟨h1,h2,h3⟩:=Jn (rules:=rules) (q:=q) i
  grind[zi]
theorem Bj{rules:List GRule}{q:GRule->Bool}:∀i,∀x∈(zi rules q i).1,0<=x/\x<(rules.length:Int)/\x<(i:Int)
 |0=>by simp[zi]
 |i+1=>by
  have h:=Bj (rules:=rules) (q:=q) i;unfold zi
  grind
theorem Uq{rules:List GRule}(hr:rules.length<=1048576) {f:GRule->Option Bool}{q:GRule->Bool}(hf:∀r,f r=some (q r)):Ec rules f=some ((zi rules q rules.length).1,(zi rules q rules.length).2.1):=by
 unfold Ec;rw[dw (by omega) (by omega),Kaa];have hl:da (Ge rules f) (([]:List Int),([]:List Int),Oaa rules.length 0,0)=some (.inl ((zi rules q rules.length).1,(zi rules q rules.length).2.1)):=by
  refine Rc (λi=>((zi rules q i).1,(zi rules q i).2.1,(zi rules q i).2.2,(i:Int))) rules.length _ (λi hi=>?_) (by grind[Ge]) rfl;obtain⟨h1,h2,h3⟩:=Jn (rules:=rules) (q:=q) i;unfold Ge;simp only[zi,Maa hi];rw[if_pos (by omega),Ca hi,Kaa,ya (by omega),hf];generalize rules[i]=r;have hanc:(Laa (α:=Int) (Laa (α:=Bool) (if 0<=r.Parent then some (decide (r.Parent<(i:Int)))else some false) λd=>if d=true then(idx (zi rules q i).2.2 r.Parent).bind λb=>some b else some (-1)) λc=>some c)=some (if 0<=r.Parent/\r.Parent<(i:Int)then((zi rules q i).2.2[r.Parent.toNat]?).getD 0 else -1):=by
   by_cases g1:0<=r.Parent
   .by_cases g2:r.Parent<(i:Int)
    .rw[if_pos g1,Kaa,if_pos (by simp_all),if_pos ⟨g1,g2⟩,Ng g1 (by omega),Maa (by omega)];rfl
    grind
   grind
  have a:(Laa (α:=Bool) (if 0<=r.Parent then some (decide (r.Parent<(i:Int)))else some false) λd=>if d=true then(idx (zi rules q i).2.2 r.Parent).bind λb=>some b else some (-1))=some (if 0<=r.Parent/\r.Parent<(i:Int)then((zi rules q i).2.2[r.Parent.toNat]?).getD 0 else -1):=by
   simp_all
  rw[a,Kaa];generalize (if 0<=r.Parent/\r.Parent<(i:Int)then((zi rules q i).2.2[r.Parent.toNat]?).getD 0 else -1)=anc;rw[Ca (i:=i) (by omega),Kaa,yv (by omega),Kaa,Kaa];cases q r
  .simp
  .rw[if_pos rfl,Ca (i:=i) (by simp_all),Kaa,yv (by simp_all),Kaa,wi (by grind),Kaa,wi (by grind),Kaa];rfl
 simp_all
theorem KE{s:GScope}(hs:s.Rules.length<=1048576) (def_ date:Int):Qj s def_ date=some (zi s.Rules (Cu def_ date) s.Rules.length).1:=by
 unfold Qj;have hl:da (Hk s def_ date) (([]:List Int),0)=some (.inl (zi s.Rules (Cu def_ date) s.Rules.length).1):=by
  refine Rc (λi=>((zi s.Rules (Cu def_ date) i).1,(i:Int))) s.Rules.length _ (λi hi=>?_) (by grind[Hk]) rfl;obtain⟨h1,h2,h3⟩:=Jn (rules:=s.Rules) (q:=Cu def_ date) i;unfold Hk;simp only[zi,Maa hi];rw[if_pos (by omega),Ca hi,Kaa,ya (by omega),XC];generalize s.Rules[i]=r;have hq:(if r.Def=def_ then(some (Mz r.Valid date)).bind λa=>some a else some false)=some (Cu def_ date r):=by
   grind[Cu]
  rw[hq,Kaa];cases Cu def_ date r
  .simp
  .rw[if_pos rfl,wi (by grind)];rfl
 simp_all
def JP(neg:Bool) (mode:Int) (q r d:Nat):Prop:=
 (mode=0/\neg=true/\0<r)\/(mode=1/\neg=false/\0<r)\/(mode=3/\0<r)\/(mode=4/\d<=r+r)\/(mode=5/\(d<r+r\/(d=r+r/\q % 2=1)))
instance (neg:Bool) (mode:Int) (q r d:Nat):Decidable (JP neg mode q r d):=by unfold JP;infer_instance
def Zs(neg:Bool) (mode:Int) (q r d:Nat):Nat:=if JP neg mode q r d then q+1 else q
theorem az(neg:Bool) (mode:Int) (q r d:Nat):q<=Zs neg mode q r d/\Zs neg mode q r d<=q+1:=by
 grind[Zs]
def SE(neg:Bool) (n:Nat):Int:=if neg=true then -(n:Int)else n
theorem Z2(neg:Bool) (n:Nat):(SE neg n).natAbs=n:=by grind[SE]
theorem wuN{n:Int}(h1:0<=n) (h2:n<18446744073709551616):ca .u64 n=n:=by
 grind[ca]
theorem CX(q:Nat):((pab (q:Int) 2)==1)=decide (q % 2=1):=by
 grind
theorem half{r d q:Nat}:(if¬((d:Int)-r)<r then if(r:Int)=d-r then some (decide (q % 2=1))else some false else some true)=some (decide (d<r+r\/(d=r+r/\q % 2=1))):=by
 by_cases a:(d:Int)-r<r
 .grind
 .rw[if_pos a];by_cases h2:(r:Int)=d-r
  .rw[if_pos h2];congr 1;grind
  .rw[if_neg h2];simp;omega
theorem xN{q r d:Nat}(neg:Bool) (mode:Int) (hq:q<9223372036854775808) (hr:r<d) (hd:d<9223372036854775808):xe q r d neg mode=some ((Zs neg mode q r d:Nat):Int):=by
 unfold xe Zs;rw[wuN (n:=(d:Int)-r) (by omega) (by omega),wuN (n:=(q:Int)+1) (by omega) (by omega),CX,half];by_cases a:r=0
 .subst a;rw[if_pos (by rfl),if_neg (by unfold JP;omega)]
 .rw[if_neg (by omega)];unfold JP
  grind
theorem Cq(n:Int):Jg n=some (decide (0<=n/\n<=5)):=by
 grind[Jg]
theorem beyO{n k x:Int}(hx:x = -k):(Laa (α:=Bool) (if¬k<n then some (decide (n<x))else some true) λj=>some j)=some (decide (k<n\/n < -k)):=by
 subst hx;grind
theorem Qh{n k:Int}(h1:0<=k) (h2:k<9223372036854775808):Pe n k=some (decide (k<n\/n < -k)):=by
 grind[Pe,beyO,wid]
theorem xg{n:Int}(h1:-9223372036854775808<=n) (h2:n<9223372036854775808):Ud n=some (n.natAbs:Int):=by
 grind[Ud,ca]
theorem oy{q:Nat}(b:Bool) (h:q<9223372036854775808):jo q b=some (SE b q):=by
 grind[jo,SE,wid]
theorem quoU{a b:Nat}(h:0<b) (ha:a<9223372036854775808):quo .u64 (a:Int) (b:Int)=some ((a / b:Nat):Int):=by
 unfold quo;have:=rad a b;rw[if_neg (by omega),Had (by omega),←Int.natCast_ediv]
 grind[wuN]
theorem remU{a b:Nat}{k:IntKind}(h:0<b):rem k (a:Int) (b:Int)=some ((a % b:Nat):Int):=by
 grind[rem]
def I7(n d mode:Int):Int×Int:=
 if¬(0<=mode/\mode<=5)then(0,1)else
 if d=0 then(0,12)else
 if(4611686018427387904<n\/n < -4611686018427387904)\/(4611686018427387904<d\/d < -4611686018427387904)then(0,3)else
 (SE (!(decide (n<0)==decide (d<0))) (Zs (!(decide (n<0)==decide (d<0))) mode (n.natAbs / d.natAbs) (n.natAbs % d.natAbs) d.natAbs),0)
theorem or2{a b:Prop} [Decidable a] [Decidable b] {o:Option Bool}(h:o=some (decide b)) {α:Type}{k:Bool->Option α}:(Laa (α:=Bool) ((some (decide a)).bind λx=>if x=false then o.bind λy=>some y else some true) k)=k (decide (a\/b)):=by
 grind
theorem fo(n d mode:Int):Zf n d mode=some (I7 n d mode):=by
 unfold Zf I7;rw[Cq,Kaa];by_cases hm:0<=mode/\mode<=5
 .rw[if_neg (by simp_all),if_neg (cab.2 hm)];by_cases a:d=0
  .simp_all
  .rw[if_neg a,if_neg a,Qh (by omega) (by omega),or2 (Qh (by omega) (by omega))];by_cases hb:(4611686018427387904<n\/n < -4611686018427387904)\/(4611686018427387904<d\/d < -4611686018427387904)
   .simp_all
   .rw[if_neg (by simp_all),if_neg hb,xg (by omega) (by omega),Kaa,xg (by omega) (by omega),Kaa];have hl:=rad n.natAbs d.natAbs;have hr:=(az (!(decide (n<0)==decide (d<0))) mode (n.natAbs / d.natAbs) (n.natAbs % d.natAbs) d.natAbs).2;rw[quoU (by omega) (by omega),Kaa,remU (by omega),Kaa,xN _ _ (by omega) (Rac _ (by omega)) (by omega),Kaa,oy _ (by omega)];rfl
 simp_all
def mdS(c num den mode:Int):Int×Int:=
 if¬(0<=mode/\mode<=5)then(0,1)else
 if den=0 then(0,12)else
 if(1000000000000000<c\/c < -1000000000000000)\/(1000000000<num\/num < -1000000000)\/(1000000000<den\/den < -1000000000)then(0,3)else
 if Zs (!((!((decide (c<0))==(decide (num<0))))==(decide (den<0)))) mode (c.natAbs*num.natAbs / den.natAbs) (c.natAbs*num.natAbs % den.natAbs) den.natAbs<=1000000000000000 then
  (SE (!((!((decide (c<0))==(decide (num<0))))==(decide (den<0)))) (Zs (!((!((decide (c<0))==(decide (num<0))))==(decide (den<0)))) mode (c.natAbs*num.natAbs / den.natAbs) (c.natAbs*num.natAbs % den.natAbs) den.natAbs),0)
 else(0,3)
theorem or3{a b c:Prop} [Decidable a] [Decidable b] [Decidable c] {o p:Option Bool}(h:o=some (decide b)) (h2:p=some (decide c)) {α:Type}{k:Bool->Option α}:(Laa (α:=Bool) ((some (decide a)).bind λx=>if x=false then o.bind λy=>if y=false then p.bind λz=>some z else some true else some true) k)=k (decide (a\/b\/c)):=by
 grind
theorem xQ{x y:Nat}(hx:x<18446744073709551616) (hy:y<18446744073709551616):Td x y=some (((x*y / 18446744073709551616:Nat):Int),((x*y % 18446744073709551616:Nat):Int)):=by
 grind[Td]
theorem GU{p z:Nat}(hp:p / 18446744073709551616<z) (hz:z<18446744073709551616):Ze ((p / 18446744073709551616:Nat):Int) ((p % 18446744073709551616:Nat):Int) z=some (((p / z:Nat):Int),((p % z:Nat):Int)):=by
 grind[Ze]
theorem oJ{p z:Nat}(a:0<z) (h:z<=p / 18446744073709551616):18446744073709551616<=p / z:=by
 rw[Nat.le_div_iff_mul_le a];omega
theorem QG(c num den mode:Int):Bq c num den mode=some (mdS c num den mode):=by
 unfold Bq mdS;rw[Cq,Kaa];by_cases hm:0<=mode/\mode<=5
 .rw[if_neg (by simp_all),if_neg (cab.2 hm)];by_cases e:den=0
  .simp_all
  .rw[if_neg e,if_neg e,Qh (by omega) (by omega),or3 (Qh (by omega) (by omega)) (Qh (by omega) (by omega))];by_cases hb:(1000000000000000<c\/c < -1000000000000000)\/(1000000000<num\/num < -1000000000)\/(1000000000<den\/den < -1000000000)
   .simp_all
   .rw[if_neg (by simp_all),if_neg hb,xg (by omega) (by omega),Kaa,xg (by omega) (by omega),Kaa];generalize (!((!((decide (c<0))==(decide (num<0))))==(decide (den<0))))=ng;obtain⟨x,hx⟩:∃x,c.natAbs=x:=⟨_,rfl⟩;obtain⟨y,k⟩:∃x,num.natAbs=x:=⟨_,rfl⟩;obtain⟨z,f⟩:∃x,den.natAbs=x:=⟨_,rfl⟩;have a:=xg (n:=den) (by omega) (by omega);rw[f]at a;rw[hx,k,f,a];have g:x<=1000000000000000:=by omega
    have bY:y<=1000000000:=by omega
    have d:z<=1000000000/\0<z:=by omega
    have b:x*y<=1000000000000000000000000:=dac (Zac g bY) (by decide);rw[xQ (by omega) (by omega)];simp only[Kaa];generalize x*y=p at b⊢;by_cases j:z<=p / 18446744073709551616
    .rw[if_pos (by omega),if_neg];have h:=(az ng mode (p / z) (p % z) z).1;have h2:=oJ d.2 j;omega
    .rw[if_neg (by omega),GU (by omega) (by omega)];simp only[Kaa];have h:=az ng mode (p / z) (p % z) z;by_cases hq:p / z<=1000000000000000
     .rw[if_neg (by omega),xN _ _ (by omega) (Rac _ d.2) (by omega),Kaa];by_cases i:Zs ng mode (p / z) (p % z) z<=1000000000000000
      .rw[if_neg (by omega),if_pos i,oy _ (by omega)];rfl
      grind
     grind
 simp_all
theorem fw(n:Int):Fk n=some (decide (0<=n/\n<=5)):=by
 grind[Fk]
theorem Wo{n k:Int}(h1:0<=k) (h2:k<9223372036854775808):oj n k=some (decide (k<n\/n < -k)):=by
 grind[oj,beyO,wid]
theorem PK(c r mode:Int):bu c r mode=some (mdS c r 1000000 mode):=by
 grind[bu,QG]
def NX(mode q r d:Int):Prop:=
 r≠0/\(mode=1\/(mode=2/\q<0)\/(mode=3/\0<=q)\/(mode=4/\(d-r<r\/(r=d-r/\0<=q)))\/(mode=5/\(d-r<r\/(r=d-r/\q % 2≠0))))
instance (mode q r d:Int):Decidable (NX mode q r d):=by unfold NX;infer_instance
def QK(mode q r d:Int):Int:=if NX mode q r d then q+1 else q
theorem AH(N:Int) (d:Nat) (mode:Int) (hd:0<d) (neg:Bool) (g:N=0\/neg=decide (N<0)) (hm:0<=mode/\mode<=5) :
 SE neg (Zs neg mode (N.natAbs / d) (N.natAbs % d) d)=QK mode (N / d) (N % d) d:=by
 have m:=Nat.div_add_mod N.natAbs d;have n:=Rac N.natAbs hd;obtain⟨a,ha⟩:∃a,N.natAbs / d=a:=⟨_,rfl⟩;obtain⟨b,hb⟩:∃a,N.natAbs % d=a:=⟨_,rfl⟩;rw[ha,hb]at m;rw[hb]at n;rw[ha,hb];by_cases hN:0<=N
 .have p:N=(N.natAbs:Int):=by omega
  have q1:N / (d:Int)=(a:Int):=by grind
  have i:N % (d:Int)=(b:Int):=by grind
  rw[q1,i];have hn:b=0\/neg=false:=by
   grind
  have key:JP neg mode a b d↔NX mode a b d:=by
   unfold JP NX
   grind
  have q:∀k:Nat,(b=0->k=a)->SE neg k=(k:Int):=λk hk=>by
   unfold SE;rcases hn with h|h
   .have h0:a=0\/neg=false:=by
     rcases g with o|o
     .left;subst o;simp at ha;omega
     grind
    grind
   grind
  unfold Zs QK;by_cases c:JP neg mode a b d
  .rw[if_pos c,if_pos (key.1 c)];rw[q _ (λl=>absurd c (by rw[l];unfold JP;omega))];omega
  grind
 .have p:N = -(N.natAbs:Int):=by omega
  have hn:neg=true:=by
   grind
  subst hn;have f:N = -((d:Int)*a+b):=by omega
  unfold SE;simp only[if_true];by_cases j:b=0
  .have q1:N / (d:Int) = -(a:Int):=by
    rw[f,j];simp only[Int.natCast_zero,Int.add_zero];rw[←Int.mul_neg,Int.mul_ediv_cancel_left _ (by omega)]
   have i:N % (d:Int)=0:=by
    rw[f,j];simp
   rw[q1,i];unfold Zs QK;rw[if_neg (by rw[j];unfold JP;omega),if_neg (by simp[NX])]
  .have e:N=((d:Int)-b)+d*(-(a:Int)-1):=by grind
   have q1:N / (d:Int) = -(a:Int)-1:=by
    rw[e,Int.add_mul_ediv_left _ _ (by omega),Int.ediv_eq_zero_of_lt (by omega) (by omega)];omega
   have i:N % (d:Int)=(d:Int)-b:=by
    rw[e,Int.add_mul_emod_self_left,Int.emod_eq_of_lt (by omega) (by omega)]
   rw[q1,i];have key:JP true mode a b d↔¬NX mode (-(a:Int)-1) ((d:Int)-b) d:=by
    unfold JP NX at *
    grind
   grind[Zs,QK]
def PZ(a b mode:Int):Int×Int:=
 if¬(0<=mode/\mode<=5)then(0,1)else
 if(1000000000<a\/a < -1000000000)\/(1000000000<b\/b < -1000000000)then(0,3)else
 if 1000000000<QK mode (a*b / 1000000) (a*b % 1000000) 1000000\/QK mode (a*b / 1000000) (a*b % 1000000) 1000000 < -1000000000 then(0,3)else
 (QK mode (a*b / 1000000) (a*b % 1000000) 1000000,0)
theorem rS{a b:Int}(h1:¬(1000000000<a\/a < -1000000000)) (h2:¬(1000000000<b\/b < -1000000000)):-1000000000000000000<=a*b/\a*b<=1000000000000000000:=by
 have:=Zac (show a.natAbs<=1000000000 by omega) (show b.natAbs<=1000000000 by omega);rw[←lae]at this;omega
theorem cP(a b mode:Int):uy a b mode=some (PZ a b mode):=by
 unfold uy PZ;rw[fw,Kaa];by_cases hm:0<=mode/\mode<=5
 .rw[if_neg (by simp_all),if_neg (cab.2 hm),Wo (by omega) (by omega),or2 (Wo (by omega) (by omega))];by_cases hb:(1000000000<a\/a < -1000000000)\/(1000000000<b\/b < -1000000000)
  .simp_all
  .rw[if_neg (by simp_all),if_neg hb,fo];have c:=rS (λh=>hb (.inl h)) (λh=>hb (.inr h));generalize a*b=p at c⊢;rw[wid (by omega) (by omega)];have d:SE (!(decide (p<0)==decide ((1000000:Int)<0))) (Zs (!(decide (p<0)==decide ((1000000:Int)<0))) mode (p.natAbs / 1000000) (p.natAbs % 1000000) 1000000)=QK mode (p / 1000000) (p % 1000000) 1000000:=AH p 1000000 mode (by decide) (!(decide (p<0)==decide ((1000000:Int)<0))) (.inr (by simp)) hm;unfold I7;rw[if_neg (cab.2 hm),if_neg (by decide),if_neg (by omega)];simp only[Kaa];rw[show(1000000:Int).natAbs=1000000 from rfl,d,if_neg (by simp),Wo (by omega) (by omega),Kaa]
   grind
 simp_all
theorem modeO{n:Int}{α:Type}{k:Bool->Option α}:(Laa (α:=Bool) (if¬n<0 then some (decide (5<n))else some true) k)=k (decide (¬(0<=n/\n<=5))):=by
 grind
theorem qW(mode q r d:Int):q<=QK mode q r d/\QK mode q r d<=q+1:=by grind[QK]
def frS(num den mode:Int):Int×Int:=
 if¬(0<=mode/\mode<=5)then(0,1)else
 if den=0 then(0,12)else
 if(1000000000000000<num\/num < -1000000000000000)\/(1000000000000000<den\/den < -1000000000000000)then(0,3)else
 if Zs (!(decide (num<0)==decide (den<0))) mode (num.natAbs*1000000 / den.natAbs) (num.natAbs*1000000 % den.natAbs) den.natAbs<=1000000000 then
  (SE (!(decide (num<0)==decide (den<0))) (Zs (!(decide (num<0)==decide (den<0))) mode (num.natAbs*1000000 / den.natAbs) (num.natAbs*1000000 % den.natAbs) den.natAbs),0)
 else(0,3)
theorem rP{q r d:Nat}(neg:Bool) (mode:Int) (hr:r<d) (hd:d<9223372036854775808):Xo q r d neg mode=some (decide (JP neg mode q r d)):=by
 unfold Xo;rw[wuN (n:=(d:Int)-r) (by omega) (by omega),CX,half];by_cases b:r=0
 .subst b;rw[if_pos (by rfl)];congr 1;symm;rw[decide_eq_false_iff_not];unfold JP;omega
 .rw[if_neg (by omega)];unfold JP;have hp:0<r:=by omega
  by_cases e0:mode=0
  .simp_all
  by_cases e1:mode=1
  .simp_all
  by_cases e3:mode=3
  .simp_all
  by_cases a:mode=4
  .subst a;simp;omega
  grind
theorem lF{n:Int}(h1:-9223372036854775808<n) (h2:n<9223372036854775808):ca .u64 (max n (ca .i64 (-n)))=((n.natAbs:Nat):Int):=by
 grind[wid,wuN]
theorem UC(num den mode:Int):An num den mode=some (frS num den mode):=by
 unfold An frS;rw[fw,Kaa];by_cases hm:0<=mode/\mode<=5
 .rw[if_neg (by simp_all),if_neg (cab.2 hm)];by_cases e:den=0
  .simp_all
  .rw[if_neg e,if_neg e,Wo (by omega) (by omega),or2 (Wo (by omega) (by omega))];by_cases hb:(1000000000000000<num\/num < -1000000000000000)\/(1000000000000000<den\/den < -1000000000000000)
   .simp_all
   .rw[if_neg (by simp_all),if_neg hb,lF (by omega) (by omega),lF (by omega) (by omega)];have a:(¬(decide (num<0))=(decide (den<0)))↔(!(decide (num<0)==decide (den<0)))=true:=by
     simp
    generalize (!(decide (num<0)==decide (den<0)))=ng at a⊢;obtain⟨x,hx⟩:∃x,num.natAbs=x:=⟨_,rfl⟩;obtain⟨z,h⟩:∃x,den.natAbs=x:=⟨_,rfl⟩;rw[hx,h];have bx:x<=1000000000000000:=by omega
    have d:z<=1000000000000000/\0<z:=by omega
    rw[show(1000000:Int)=((1000000:Nat):Int)from rfl,xQ (by omega) (by omega)];simp only[Kaa];have b:x*1000000<=1000000000000000000000:=by omega
    generalize x*1000000=p at b⊢;by_cases g:z<=p / 18446744073709551616
    .rw[if_pos (by omega),if_neg];have f:=(az ng mode (p / z) (p % z) z).1;have h2:=oJ d.2 g;omega
    .rw[if_neg (by omega),GU (by omega) (by omega)];simp only[Kaa];have f:=az ng mode (p / z) (p % z) z;by_cases hq:p / z<=1000000000
     .rw[if_neg (by omega),rP _ _ (Rac _ d.2) (by omega),wid (n:=((p / z:Nat):Int)) (by omega) (by omega),wid (n:=((p / z:Nat):Int)+1) (by omega) (by omega)];simp only[Kaa,decide_eq_true_eq];have hfin:∀R:Nat,R<=1000000001->(if(1000000000:Int)<(R:Int)then some ((0:Int),(3:Int))else Laa (α:=Int) (if¬(decide (num<0))=(decide (den<0))then some (ca .i64 (-(R:Int)))else some (R:Int)) λc=>some (c,0))=some (if R<=1000000000 then(SE ng R,0)else(0,3)):=by
       intro R hR;by_cases hr:R<=1000000000
       .rw[if_neg (by omega),if_pos hr];unfold SE;by_cases hn:ng=true
        .rw[if_pos (a.2 hn),if_pos hn,Kaa,wid (by omega) (by omega)]
        simp_all
       grind
      grind[Zs]
     grind
 simp_all
def rtS(c unit mode:Int):Int×Int:=
 if¬(0<=mode/\mode<=5)then(0,1)else
 if unit<1 then(0,12)else
 if(1000000000000000<c\/c < -1000000000000000)\/1000000000000000<unit then(0,3)else
 if 1000000000000000<SE (decide (c<0)) (Zs (decide (c<0)) mode (c.natAbs / unit.natAbs) (c.natAbs % unit.natAbs) unit.natAbs)*unit\/SE (decide (c<0)) (Zs (decide (c<0)) mode (c.natAbs / unit.natAbs) (c.natAbs % unit.natAbs) unit.natAbs)*unit < -1000000000000000 then(0,3)else
 (SE (decide (c<0)) (Zs (decide (c<0)) mode (c.natAbs / unit.natAbs) (c.natAbs % unit.natAbs) unit.natAbs)*unit,0)
theorem KW{c unit mode:Int}{ng:Bool}(hc:¬(1000000000000000<c\/c < -1000000000000000)) (hu:1<=unit/\unit<=1000000000000000):-2000000000000000<=SE ng (Zs ng mode (c.natAbs / unit.natAbs) (c.natAbs % unit.natAbs) unit.natAbs)*unit/\SE ng (Zs ng mode (c.natAbs / unit.natAbs) (c.natAbs % unit.natAbs) unit.natAbs)*unit<=2000000000000000:=by
 have a:=(az ng mode (c.natAbs / unit.natAbs) (c.natAbs % unit.natAbs) unit.natAbs).2;have h2:(SE ng (Zs ng mode (c.natAbs / unit.natAbs) (c.natAbs % unit.natAbs) unit.natAbs)*unit).natAbs<=2000000000000000:=by
  rw[lae,Z2];have h3:=rab unit.natAbs a;have h4:=Nat.div_mul_le_self c.natAbs unit.natAbs
  grind
 omega
theorem or2'{a b:Prop} [Decidable a] [Decidable b] {α:Type}{k:Bool->Option α}:(Laa (α:=Bool) ((some (decide a)).bind λx=>if x=false then some (decide b)else some true) k)=k (decide (a\/b)):=by
 grind
theorem DE(c unit mode:Int):Vo c unit mode=some (rtS c unit mode):=by
 unfold Vo rtS;rw[Cq,Kaa];by_cases hm:0<=mode/\mode<=5
 .rw[if_neg (by simp_all),if_neg (cab.2 hm)];by_cases d:unit<1
  .simp_all
  .rw[if_neg d,if_neg d,Qh (by omega) (by omega),or2'];by_cases hb:(1000000000000000<c\/c < -1000000000000000)\/1000000000000000<unit
   .simp_all
   .rw[if_neg (by simp_all),if_neg hb,fo];have a:=KW (c:=c) (unit:=unit) (mode:=mode) (ng:=decide (c<0)) (λh=>hb (.inl h)) (by omega);unfold I7;rw[if_neg (cab.2 hm),if_neg (by omega),if_neg (by omega)];have hu:decide (unit<0)=false:=by grind
    simp only[Kaa,hu];have b:(!(decide (c<0)==false))=decide (c<0):=by simp
    rw[b];generalize SE (decide (c<0)) (Zs (decide (c<0)) mode (c.natAbs / unit.natAbs) (c.natAbs % unit.natAbs) unit.natAbs)*unit=q at a⊢;rw[if_neg (by simp),wid (by omega) (by omega),Qh (by omega) (by omega),Kaa]
    grind
 simp_all
theorem aN{σ β ρ:Type}{step:σ->Option (Ex σ β ρ)}(I:σ->Prop) (a:σ->Nat) (Q:β->Prop) (h:∀s,I s->(∃s',step s=some (.go s')/\I s'/\a s'<a s)\/∃b,step s=some (.brk b)/\Q b) :
 ∀(n:Nat) (s:σ),a s<=n->I s->∃b,da step s=some (.inl b)/\Q b
 |0,s,hn,hi=>by
  grind[Ue]
 |n+1,s,hn,hi=>by
  rcases h s hi with⟨s',c,h2,h3⟩|⟨b,c,h2⟩
  .obtain⟨b,h4,h5⟩:=aN I a Q h n s' (by omega) h2
   grind[Ul]
  grind[Ue]
def inside(r:GDateRange) (x:Int):Bool:=decide (r.From<x)&&decide (x<r.To)
theorem E5{σ1 σ2 β1 β2 ρ1 ρ2:Type}{s1:σ1->Option (Ex σ1 β1 ρ1)}{s2:σ2->Option (Ex σ2 β2 ρ2)}(I:σ1->σ2->Prop) (a:σ1->Nat) (QB:β1->β2->Prop) (QR:ρ1->ρ2->Prop)
 (h:∀x y,I x y->(∃d e,s1 x=some (.go d)/\s2 y=some (.go e)/\I d e/\a d<a x)\/(∃b c,s1 x=some (.brk b)/\s2 y=some (.brk c)/\QB b c)\/∃b c,s1 x=some (.ret b)/\s2 y=some (.ret c)/\QR b c) :
 ∀(n:Nat) x y,a x<=n->I x y->(∃b c,da s1 x=some (.inl b)/\da s2 y=some (.inl c)/\QB b c)\/∃b c,da s1 x=some (.inr b)/\da s2 y=some (.inr c)/\QR b c:=by
 intro n
 induction n with
 |zero=>
  grind[Ue,nr]
 |succ n ih=>
  grind[Ul,Ue,nr]
def DV(date key:Int) (r:GRow):Bool:=Mz r.Valid date&&(decide (r.Lo<=key)&&decide (key<r.Hi))
theorem dC(r:GRow) (date key:Int):af r date key=some (DV date key r):=by
 grind[af,DV,Si]
noncomputable def TD(t:GTable) (date key:Int):Int×Bool:=
 match ff (λi=>if(t.Rows[i]?.any (DV date key))=true then some ((i:Int),true)else none) t.Rows.length with
 |some v=>v
 |none=>(0,false)
theorem SH{t:GTable}(hl:t.Rows.length<=1048576) (date key:Int):Ao t date key=some (TD t date key):=by
 have a:da (Ib t.Rows (λy=>af y date key)) 0=some (jc () (ff (λi=>if(t.Rows[i]?.any (DV date key))=true then some ((i:Int),true)else none) t.Rows.length)):=
  bc (λi=>(i:Int)) _ t.Rows.length () (λi hi _=>by
   unfold Ib;rw[if_pos (by omega),Ca hi,Maa hi]
   grind[sG,dC,ya]) (λ_=>by grind[Ib])
 unfold Ao Rb TD;rw[a,Kaa];cases h:ff (λi=>if(t.Rows[i]?.any (DV date key))=true then some ((i:Int),true)else none) t.Rows.length<;>rfl
theorem yV{t:GTable}{date key:Int}(h:(TD t date key).2=true):∃i:Nat,(TD t date key).1=(i:Int)/\i<t.Rows.length:=by
 unfold TD at h⊢;split
 .rename_i v hv;obtain⟨i,h1,h2,-⟩:=Oa.1 hv
  grind
 simp_all
def nM(len n:Nat):Option (Nat×Nat):=if 1000000000000000<len*n / 1000000 then none else some (len*n / 1000000,len*n % 1000000)
def nO(neg:Bool):Option (Nat×Nat)->Int×Int×Bool
 |none=>(0,0,false)
 |some (q,r)=>(SE neg q,SE neg r,true)
theorem Ly{len:Nat}{n:Int}(a:len<=1000000000000000) (h2:-1000000000<=n/\n<=1000000000):ni len n=some (nO (decide (n<0)) (nM len n.natAbs)):=by
 unfold ni;have e:(if n<0 then some (ca .u64 (-(ca .u64 n)))else some (ca .u64 n))=some (n.natAbs:Int):=by
  have:=xg (n:=n) (by omega) (by omega);exact this
 rw[e,Kaa,wuN (n:=(len:Int)) (by omega) (by omega),xQ (by omega) (by omega),Kaa];have b:len*n.natAbs<=1000000000000000*1000000000:=Zac a (by omega);unfold nM;generalize len*n.natAbs=p at b⊢;dsimp only;rw[if_neg (by omega),show(1000000:Int)=((1000000:Nat):Int)from rfl,GU (by omega) (by omega),Kaa];dsimp only;by_cases hq:1000000000000000<p / 1000000
 .rw[if_pos (by omega),if_pos hq];rfl
 .rw[if_neg (by omega),if_neg hq,wid (n:=((p / 1000000:Nat):Int)) (by omega) (by omega),wid (n:=((p % 1000000:Nat):Int)) (by omega) (by omega)];by_cases hn:n<0
  .rw[if_pos hn,wid (by omega) (by omega),wid (by omega) (by omega),decide_eq_true hn];rfl
  .rw[if_neg hn,decide_eq_false hn];rfl
theorem oO{neg:Bool}{len n:Nat}:-1000000000000000<=(nO neg (nM len n)).1/\(nO neg (nM len n)).1<=1000000000000000/\-1000000<=(nO neg (nM len n)).2.1/\(nO neg (nM len n)).2.1<=1000000:=by
 grind[nM,nO,SE]
def rsS(w m mode:Int):Int:=QK mode ((w*1000000+m) / 1000000) ((w*1000000+m) % 1000000) 1000000
theorem DW{mode q r e:Int}(he:e % 2=0) (h:(0<=q+e)↔(0<=q)):QK mode (q+e) r 1000000=QK mode q r 1000000+e:=by
 have:NX mode (q+e) r 1000000↔NX mode q r 1000000:=by unfold NX;omega
 grind[QK]
theorem qD{w m mode:Int}(hm:0<=mode/\mode<=5) (hw:-2000000000000000000<=w/\w<=2000000000000000000) (hr:-1000000000000<=m/\m<=1000000000000) :
 Pn w m mode=some (if 1000000000000000<rsS w m mode\/rsS w m mode < -1000000000000000 then(0,3)else(rsS w m mode,0)):=by
 have a:=Int.mul_tdiv_add_tmod m 1000000;have hm1:=Int.tmod_lt_of_pos m (show(0:Int)<1000000 by omega);have hm2:-1000000<pab m 1000000:=by
  grind
 unfold Pn;rw[wid (n:=iab m 1000000) (by omega) (by omega),wid (n:=w+iab m 1000000) (by omega) (by omega)];have f:w*1000000+m=(w+iab m 1000000)*1000000+pab m 1000000:=by omega
 unfold rsS;rw[f];have hW:-3000000000000000000<=w+iab m 1000000/\w+iab m 1000000<=3000000000000000000:=by omega
 generalize w+iab m 1000000=W at *;generalize pab m 1000000=M at *;clear a f;have b:=qW mode ((W*1000000+M) / 1000000) ((W*1000000+M) % 1000000) 1000000;by_cases hb:W < -2000000000000000\/2000000000000000<W
 .grind
 .rw[if_pos (by omega),Kaa,if_neg (by simp_all)];have d:pab W 2=if 0<=W then W % 2 else -(-W % 2):=by
   grind
  obtain⟨P,hP,hPe⟩:∃P,(if 1<W then some (ca .i64 ((pab W 2)+2))else if W<(-1)then some (ca .i64 ((pab W 2)-2))else some (pab W 2))=some P/\((1<W/\P=W % 2+2)\/(W < -1/\P = -(-W % 2)-2)\/(-1<=W/\W<=1/\P=W)):=by
   rw[d];by_cases e:1<W
   .rw[if_pos e,if_pos (by omega),wid (by omega) (by omega)];simp_all
   .rw[if_neg e];by_cases h2:W < -1
    .rw[if_pos h2,if_neg (by omega),wid (by omega) (by omega)];simp_all
    .rw[if_neg h2];grind
  rw[hP,Kaa];have hPb:-4<=P/\P<=4:=by omega
  rw[wid (n:=P*1000000) (by omega) (by omega),wid (n:=P*1000000+M) (by omega) (by omega),fo];unfold I7;rw[if_neg (cab.2 hm),if_neg (by decide),if_neg (by omega)];obtain⟨Z,i⟩:∃Z,P*1000000+M=Z:=⟨_,rfl⟩;rw[i];have j:SE (!(decide (Z<0)==decide ((1000000:Int)<0))) (Zs (!(decide (Z<0)==decide ((1000000:Int)<0))) mode (Z.natAbs / 1000000) (Z.natAbs % 1000000) 1000000)=QK mode (Z / 1000000) (Z % 1000000) 1000000:=AH Z 1000000 mode (by decide) (!(decide (Z<0)==decide ((1000000:Int)<0))) (.inr (by simp)) hm;simp only[Kaa];rw[show(1000000:Int).natAbs=1000000 from rfl,j,if_neg (by simp)];have c:QK mode ((W*1000000+M) / 1000000) ((W*1000000+M) % 1000000) 1000000=QK mode (Z / 1000000) (Z % 1000000) 1000000+(W-P):=by
   have g:(W*1000000+M) / 1000000=Z / 1000000+(W-P):=by omega
   have h:(W*1000000+M) % 1000000=Z % 1000000:=by omega
   rw[g,h];exact DW (by omega) (by omega)
  have hrd2:=qW mode (Z / 1000000) (Z % 1000000) 1000000;rw[c]at b⊢;generalize QK mode (Z / 1000000) (Z % 1000000) 1000000=R at *;rw[wid (n:=W-P) (by omega) (by omega),wid (n:=W-P+R) (by omega) (by omega),Int.add_comm (W-P) R]
  grind
structure RowsN (t:GTable):Prop where
 len:t.Rows.length<=150
 n:∀r∈t.Rows,-1000000000<=r.N/\r.N<=1000000000
theorem VN{t:GTable}(ht:t.Value.Kind=4->RowsN t) (date c mode:Int):∃p,Nn t date c mode=some p/\(p.2=0->-1000000000000000<=p.1/\p.1<=1000000000000000):=by
 unfold Nn;rw[modeO];by_cases hm:¬(0<=mode/\mode<=5)
 .simp_all
 have hm:=xad.1 hm;rw[decide_eq_false (p:=¬(0<=mode/\mode<=5)) (λh=>h hm),if_neg (show¬(false=true)from λh=>nomatch h)];have f:∀{α:Type} (k:Bool->Option α),(Laa (α:=Bool) (if t.Key.Kind=3/\t.Key.Enum=0 then some (!((t.Value.Kind==4)&&(t.Value.Enum==0)))else some true) k)=k (!decide ((t.Key.Kind=3/\t.Key.Enum=0)/\(t.Value.Kind=4/\t.Value.Enum=0))):=by
  grind
 rw[f];by_cases hk:¬((t.Key.Kind=3/\t.Key.Enum=0)/\(t.Value.Kind=4/\t.Value.Enum=0))
 .rw[decide_eq_false hk,if_pos (show(!false)=true from rfl)];simp
 have hk:=xad.1 hk;rw[decide_eq_true hk,if_neg (show¬((!true)=true)from λh=>nomatch h)];have ht:=ht hk.2.1;by_cases hc:1000000000000000<c\/c < -1000000000000000
 .have h2:(if¬c < -1000000000000000 then some (decide (1000000000000000<c))else some true)=some true:=by
   grind
  simp_all
 .rw[if_pos (by omega),Kaa,if_neg (by simp_all)];have e:=E5 (s1:=Jj t date c) (s2:=Jj t date c) (λx y=>x=y/\∃i:Nat,x.2.2=(i:Int)/\i<=t.Rows.length/\-(1000000000000000*(i:Int))<=x.1/\x.1<=1000000000000000*(i:Int)/\-(1000000*(i:Int))<=x.2.1/\x.2.1<=1000000*(i:Int)) (λx=>(t.Rows.length-x.2.2).toNat) (λx y=>x=y/\-150000000000000000<=x.1/\x.1<=150000000000000000/\-150000000<=x.2/\x.2<=150000000) (λx y=>x=(0,3)/\y=(0,3)) (by
   rintro⟨a,b,j⟩ y ⟨rfl,i,g,o,q,s,u,z⟩;dsimp only at g o q s u z;subst g;have hl:=ht.len;unfold Jj;dsimp only;by_cases hi:i<t.Rows.length
   .have hN:=ht.n _ (Qaa hi);rw[if_pos (by omega),Ca hi];simp only[Kaa,Si];generalize t.Rows[i]=r at hN⊢;by_cases l:Mz r.Valid date=true/\¬(min r.Hi c<=max r.Lo 0)
    .rw[if_pos l.1];have q1:decide (min r.Hi c<=max r.Lo 0)=false:=by simp_all
     rw[q1];simp only[Kaa,Saa,if_false];rw[wid (by omega) (by omega)];obtain⟨len,d⟩:=fac (show 0<=min r.Hi c-max r.Lo 0 by omega);rw[d,Ly (by omega) hN];have hb:=oO (neg:=decide (r.N<0)) (len:=len) (n:=r.N.natAbs);generalize nO (decide (r.N<0)) (nM len r.N.natAbs)=v at hb⊢;obtain⟨A,B,C⟩:=v;simp only[Kaa]at hb⊢;cases C
     .simp
     .left;rw[wid (n:=a+A) (by omega) (by omega),wid (n:=b+B) (by omega) (by omega),ya (by omega)];refine⟨_,_,rfl,rfl,⟨rfl,i+1,rfl,by omega,?_⟩,?_⟩
      all_goals grind
    .have q1:(if Mz r.Valid date=true then some (decide (min r.Hi c<=max r.Lo 0))else some true)=some true:=by
      simp_all
     have q2:(if¬(min r.Hi c<=max r.Lo 0)then some (!Mz r.Valid date)else some true)=some true:=by
      grind
     rw[q1];simp only[Kaa,if_true];left;rw[ya (by omega)];refine⟨_,_,rfl,rfl,⟨rfl,i+1,rfl,by omega,?_⟩,?_⟩
     all_goals grind
   grind) t.Rows.length (0,0,0) (0,0,0) (by simp) ⟨rfl,0,rfl,by omega,by simp⟩
  rcases e with⟨x,y,g1,g2,rfl,g3⟩|⟨x,y,g1,g2,rfl,rfl⟩
  .rw[g1];obtain⟨w,m⟩:=x;dsimp only at g3;simp only[Kaa];rw[qD hm (by omega) (by omega)];simp only[Kaa];by_cases h:1000000000000000<rsS w m mode\/rsS w m mode < -1000000000000000
   .simp_all
   grind
  simp_all
def ic(v:GValue):Prop:=
 (v.Kind=1/\v.Enum=0/\0<=v.N/\v.N<=1)\/(v.Kind=2/\v.Enum=0/\-1000000000000<=v.N/\v.N<=1000000000000)\/(v.Kind=3/\v.Enum=0/\-1000000000000000<=v.N/\v.N<=1000000000000000)\/
 (v.Kind=4/\v.Enum=0/\-1000000000<=v.N/\v.N<=1000000000)\/(v.Kind=5/\v.Enum=0/\0<=v.N/\v.N<=109572)\/(v.Kind=6/\0<=v.Enum/\v.Enum<8/\0<=v.N/\v.N<16)
instance (v:GValue):Decidable (ic v):=by unfold ic;infer_instance
def Ds(v:GValue):Bool:=decide (ic v)
theorem nQ{a b:Prop} [Decidable a] [Decidable b]:(Laa (α:=Bool) (if a then some (decide b)else some false) λj=>some j)=some (decide (a/\b)):=by
 grind
theorem iteE{a:Prop} [Decidable a] {b:Bool}:(if¬a then some b else some false)=some (!decide a&&b):=by
 grind
theorem Yb(v:GValue):Xb v=some (Ds v):=by
 obtain⟨K,E,N⟩:=v;unfold Xb Ds ic;simp only[nQ,iteE,Kaa]
 grind[decide]
theorem ic.range{v:GValue}(h:ic v):-1000000000000000<=v.N/\v.N<=1000000000000000/\1<=v.Kind/\v.Kind<=6:=by unfold ic at h;omega
def ZX(n:GNode):Bool:=
 decide (n.N=0\/tc n.Op=true)&&decide ((14<=n.Op/\n.Op<=16->0<=n.N/\n.N<=5)/\(n.Op=34->0<=n.N/\n.N % 8<=5)/\(n.Op=6->0<=n.N))
theorem sw_s{n:GNode}:(Laa (α:=Bool) (if n.Op=14 then some true else if n.Op=15 then some true else some (n.Op==16)) λh=>
 if h=true then Laa (α:=Bool) (if 0<=n.N then some (decide (n.N<=5))else some false) λe=>some e
 else if n.Op=34 then Laa (α:=Bool) (if 0<=n.N then some (decide ((pab n.N 8)<=5))else some false) λf=>some f
 else if n.Op=6 then some (decide (0<=n.N))else some true)=some (decide ((14<=n.Op/\n.Op<=16->0<=n.N/\n.N<=5)/\(n.Op=34->0<=n.N/\n.N % 8<=5)/\(n.Op=6->0<=n.N))):=by
 obtain⟨op,N⟩:=n;dsimp only;simp only[nQ];by_cases b:op=14
 .simp_all
 by_cases c:op=15
 .simp_all
 by_cases d:op=16
 .simp_all
 by_cases a:op=34
 .subst a;simp
  grind
 by_cases g:op=6
 .simp_all
 simp[b,c,d,a,g];omega
theorem fR{op:Int}(h:1<=op/\op<=39):0<=Ab op:=by
 grind[Ab]
theorem GC(n:GNode):Sl n=some (decide (1<=n.Op/\n.Op<=39)&&ZX n):=by
 unfold Sl;rw[Zi,Kaa,sw_s];by_cases h:1<=n.Op/\n.Op<=39
 .have:=fR h;rw[if_pos (by omega),Fa h,decide_eq_true h,Iab];unfold ZX;by_cases hN:n.N=0
  .grind
  .cases hu:tc n.Op<;>simp[hN]
 grind[tC]
def Vp(n:GNode) (env:GEnv):Bool:=
 if n.Op=7 then decide (0<=n.N/\n.N<(env.Inputs.length:Int))else
 if n.Op=8 then decide (0<=n.N/\n.N<(env.Defs.length:Int))&&!(((env.Defs[n.N.toNat]?).map (·.Kind)).getD 0==0)else
 if n.Op=33 then decide (0<=n.N/\n.N<(env.Tables.length:Int))else
 if n.Op=34 then decide (ca .i64 (iab n.N 8)<(env.Tables.length:Int))else
 if 36<=n.Op/\n.Op<=39 then decide (0<=n.N/\n.N<(env.MemberTypes.length:Int))else true
theorem JZ{op:Int}{α:Type}{k:Bool->Option α}:(Laa (α:=Bool) (if op=36 then some true else if op=37 then some true else if op=38 then some true else some (op==39)) k)=k (decide (36<=op/\op<=39)):=by
 by_cases a:op=36
 .simp_all
 by_cases h2:op=37
 .simp_all
 by_cases b:op=38
 .simp_all
 by_cases h4:op=39
 .simp_all
 rw[if_neg a,if_neg h2,if_neg b,Kaa]
 grind[decide_eq_false_iff_not]
theorem Oz(n:GNode) (env:GEnv):Xr n env=some (Vp n env):=by
 unfold Xr Vp;simp only[JZ,nQ];split
 .rfl
 split
 .by_cases a:0<=n.N
  .by_cases b:n.N<(env.Defs.length:Int)
   .rw[if_pos a,if_pos b,Ng a b,Maa (by omega)];grind
   grind
  grind
 grind
structure EnvOk (env:GEnv):Prop where
 tabs:∀t∈env.Tables,t.Rows.length<=150/\(t.Value.Kind=4->RowsN t)
 mem:env.Members.length<=1048576
noncomputable def Pc(n:GNode) (args:List GValue) (env:GEnv):Option (GValue×Int):=
 (qa n args env).bind λa=>if a=false then some (⟨0,0,0⟩,8)else
 (za n args env).bind λx=>if¬x.2=0 then some (⟨0,0,0⟩,x.2)else
 if Ds x.1=false then some (⟨0,0,0⟩,3)else some (x.1,0)
def Both(e r:Option (GValue×Int)):Prop:=∃p,e=some p/\r=some p/\(p.2=0->ic p.1)
theorem gJ{x:Option (GValue×Int)}:(x.bind λy=>some (y.1,y.2))=x:=by cases x<;>rfl
def zt(v:GValue):GValue×Int:=if Ds v=true then(v,0)else(⟨0,0,0⟩,3)
theorem GZ(v:GValue):(zt v).2=0->ic (zt v).1:=by
 grind[zt,Ds]
theorem Mv{n:GNode}{args:List GValue}{env:GEnv}(h:qa n args env=some true) {v:GValue}{e:Int}(hc:za n args env=some (v,e)):Pc n args env=some (if e=0 then zt v else(⟨0,0,0⟩,e)):=by
 grind[Pc,zt]
theorem JF{n:GNode}{args:List GValue}{env:GEnv}(h:qa n args env=some false):Pc n args env=some (⟨0,0,0⟩,8):=by
 grind[Pc]
theorem FZ{v:GValue}(h:ic v):zt v=(v,0):=if_pos (decide_eq_true h)
theorem Gg(k:Int):fh k=some (decide (2<=k/\k<=4)):=by
 unfold fh;by_cases h2:k=2
 .simp_all
 by_cases a:k=3
 .simp_all
 rw[if_pos h2,if_pos a,Kaa]
 grind[decide_eq_false]
theorem Xi(b:Bool):Hg b=some ⟨1,0,if b=true then 1 else 0⟩:=by cases b<;>rfl
theorem JG(b:Bool):zt ⟨1,0,if b=true then 1 else 0⟩=(⟨1,0,if b=true then 1 else 0⟩,0):=by cases b<;>exact FZ (by decide)
theorem Ux(v:GValue) (t:GType):Zn v t=some (Ds v&&(decide (v.Kind=t.Kind)&&decide (v.Enum=t.Enum))):=by
 grind[Zn,Yb]
def Ns(e:Option (GValue×Int)):Prop:=∃p,e=some p/\(p.2=0->ic p.1)
theorem Tj{n:GNode}{args:List GValue}{env:GEnv}(h:qa n args env=some true) {v:GValue}{e:Int}(hc:za n args env=some (v,e)):Ns (Pc n args env):=by
 rw[Mv h hc];by_cases a:e=0
 .rw[if_pos a];exact⟨_,rfl,GZ v⟩
 .rw[if_neg a];exact⟨_,rfl,λh2=>absurd h2 a⟩
theorem ft{n:GNode}{args:List GValue}{env:GEnv}(h:qa n args env=some false):Ns (Pc n args env):=by
 rw[JF h];exact⟨_,rfl,λh2=>absurd h2 (by decide)⟩
theorem OQ{N:Int}{env:GEnv}:Ns (Pc ⟨6,N⟩ [] env):=by
 exact Tj (v:=⟨6,ca .i64 (iab N 16),pab N 16⟩) (e:=0) (by simp[qa]) (by simp[za])
theorem PQ{N:Int}{env:GEnv}(hf:Vp ⟨7,N⟩ env=true):Ns (Pc ⟨7,N⟩ [] env):=by
 simp only[Vp,if_true,decide_eq_true_eq]at hf;have hi:idx env.Inputs N=some (env.Inputs[N.toNat]'(by omega)):=Ng hf.1 hf.2;generalize env.Inputs[N.toNat]'(by omega)=v at hi;by_cases hv:Ds v=true
 .exact Tj (v:=v) (e:=0) (by grind[qa,Yb]) (by grind[za])
 grind[qa,ft,Yb]
theorem P3{N:Int}{env:GEnv}(hf:Vp ⟨8,N⟩ env=true):Ns (Pc ⟨8,N⟩ [] env):=by
 simp only[Vp,Taa,if_false,if_true,Vaa,decide_eq_true_eq]at hf;have hi:idx env.Defs N=some (env.Defs[N.toNat]'(by omega)):=Ng hf.1.1 hf.1.2;generalize env.Defs[N.toNat]'(by omega)=v at hi;by_cases hv:Ds v=true
 .exact Tj (v:=v) (e:=0) (by grind[qa,Yb]) (by grind[za])
 grind[qa,ft,Yb]
theorem Q3{N:Int}{env:GEnv}:Ns (Pc ⟨9,N⟩ [] env):=
 Tj (v:=⟨5,0,env.Date⟩) (e:=0) (by simp[qa]) (by simp[za])
theorem BX{N:Int}{env:GEnv}:Ns (Pc ⟨35,N⟩ [] env):=
 Tj (v:=⟨2,0,(env.Members.length:Int)⟩) (e:=0) (by simp[qa]) (by simp[za])
theorem vX{N:Int}{a:GValue}{env:GEnv}(ha:ic a):Ns (Pc ⟨10,N⟩ [a] env):=by
 have hr:=ha.range;by_cases hn:2<=a.Kind/\a.Kind<=4
 .exact Tj (v:=⟨a.Kind,0,-a.N⟩) (e:=0) (by grind[qa,qb,He,Gg]) (by grind[za,ln,He,wid])
 .have hd:decide (2<=a.Kind/\a.Kind<=4)=false:=decide_eq_false hn;exact ft (by simp only[qa,Taa,if_false,Kaa,Waa,Saa,He,qb,Gg,hd,sab,Xab,if_true,eac,bae])
theorem KN{N:Int}{a:GValue}{env:GEnv}(ha:ic a):Ns (Pc ⟨25,N⟩ [a] env):=by
 by_cases hn:a.Kind=1
 .exact Tj (v:=⟨1,0,if(a.N==0)=true then 1 else 0⟩) (e:=0) (by grind[qa,qb,He]) (by simp only[za,Taa,if_false,Kaa,Waa,Saa,He,ln,Xi,sab,Xab,if_true,eac,bae])
 grind[qa,qb,ft,He]
theorem VH{op N:Int}{a:GValue}{env:GEnv}(b:op=31\/op=32) (ha:ic a):Ns (Pc ⟨op,N⟩ [a] env):=by
 by_cases hn:a.Kind=5
 .have c:0<=a.N/\a.N<=109572:=by unfold ic at ha;omega
  obtain⟨y,m,d,f⟩:∃y m d,il a.N=some (y,m,d):=by
   obtain⟨n,m,k,f⟩:=DL c.1 c.2;exact⟨_,_,_,Ct f⟩
  rcases b with rfl|rfl
  .exact Tj (v:=⟨2,0,y⟩) (e:=0) (by grind[qa,qb,He]) (by grind[za,ln,He])
  .exact Tj (v:=⟨2,0,m⟩) (e:=0) (by grind[qa,qb,He]) (by grind[za,ln,He])
 .rcases b with rfl|rfl
  all_goals grind[qa,qb,ft,He]
theorem zX{N:Int}{a:GValue}{env:GEnv}(he:EnvOk env) (hf:Vp ⟨33,N⟩ env=true) (ha:ic a):Ns (Pc ⟨33,N⟩ [a] env):=by
 simp only[Vp,Taa,if_false,if_true,decide_eq_true_eq]at hf;have hm:env.Tables[N.toNat]'(by omega)∈env.Tables:=Qaa _;have hi:idx env.Tables N=some (env.Tables[N.toNat]'(by omega)):=Ng hf.1 hf.2;generalize env.Tables[N.toNat]'(by omega)=t at hi hm;have ht:=he.tabs t hm;have d:Ds a=true:=decide_eq_true ha;have b:qa ⟨33,N⟩ [a] env=some (decide (a.Kind=t.Key.Kind/\a.Enum=t.Key.Enum/\1<=t.Value.Kind/\t.Value.Kind<=6)):=by
  simp only[qa,Taa,if_false,if_true,hi,He,Kaa,Ux,d,Iab]
  grind
 by_cases hc:a.Kind=t.Key.Kind/\a.Enum=t.Key.Enum/\1<=t.Value.Kind/\t.Value.Kind<=6
 .rw[decide_eq_true hc]at b;have c:za ⟨33,N⟩ [a] env=if(TD t env.Date a.N).2=false then some (⟨0,0,0⟩,6)else(idx t.Rows (TD t env.Date a.N).1).bind λe=>some (⟨t.Value.Kind,t.Value.Enum,e.N⟩,0):=by
   grind[za,He,SH]
  by_cases hl:(TD t env.Date a.N).2=true
  .grind[yV,Ca,Tj]
  .rw[Iac.2 hl]at c
   grind[Tj]
 grind[ft]
theorem AX{N:Int}{a:GValue}{env:GEnv}(he:EnvOk env) (hN:Xa ⟨34,N⟩) (hw:ZX ⟨34,N⟩=true) (hf:Vp ⟨34,N⟩ env=true) (ha:ic a):Ns (Pc ⟨34,N⟩ [a] env):=by
 simp only[Vp,Taa,if_false,if_true,decide_eq_true_eq]at hf;have f:0<=N/\N % 8<=5:=by
  simp_all[ZX]
 obtain⟨c,d⟩:=hN;dsimp only at c d;have hq:ca .i64 (iab N 8)=N / 8:=by grind[wid]
 have hr:pab N 8=N % 8:=DX f.1;rw[hq]at hf;have hm:env.Tables[(N / 8).toNat]'(by omega)∈env.Tables:=Qaa _;have hi:idx env.Tables (N / 8)=some (env.Tables[(N / 8).toNat]'(by omega)):=Ng (by omega) hf;generalize env.Tables[(N / 8).toNat]'(by omega)=t at hi hm;have ht:=he.tabs t hm;obtain⟨p,b1,b3⟩:=VN ht.2 env.Date a.N (N % 8);have b:qa ⟨34,N⟩ [a] env=some (decide (a.Kind=3/\t.Key.Kind=3/\t.Key.Enum=0/\t.Value.Kind=4/\t.Value.Enum=0)):=by
  simp only[qa,Taa,if_false,if_true,hq,hi,He,Kaa]
  grind
 by_cases hc:a.Kind=3/\t.Key.Kind=3/\t.Key.Enum=0/\t.Value.Kind=4/\t.Value.Enum=0
 .rw[decide_eq_true hc]at b;exact Tj (v:=⟨3,0,p.1⟩) (e:=p.2) b (by grind[za,He])
 grind[ft]
theorem wX{N:Int}{a b c:GValue}{env:GEnv}(ha:ic a) (hb:ic b) (hc:ic c):Ns (Pc ⟨26,N⟩ [a,b,c] env):=by
 by_cases h:a.Kind=1/\b.Kind=c.Kind/\b.Enum=c.Enum
 .have d:qa ⟨26,N⟩ [a,b,c] env=some true:=by
   grind[qa,Ce,He,uE,pV]
  by_cases hN:a.N=1
  .exact Tj (v:=b) (e:=0) d (by grind[za,He,uE])
  .exact Tj (v:=c) (e:=0) d (by grind[za,He,pV])
 grind[qa,Ce,He,uE,pV,ft]
theorem Ot{op N:Int}{env:GEnv}(h:1<=op/\op<=5):Ns (Pc ⟨op,N⟩ [] env):=by
 refine Tj (v:=⟨op,0,N⟩) (e:=0) ?_ ?_
 .have:op=1\/op=2\/op=3\/op=4\/op=5:=by omega
  rcases this with rfl|rfl|rfl|rfl|rfl<;>simp[qa]
 .have:op=1\/op=2\/op=3\/op=4\/op=5:=by omega
  rcases this with rfl|rfl|rfl|rfl|rfl<;>simp[za]
theorem mI{op N:Int}{a b:GValue}{env:GEnv}(h:(11<=op/\op<=24)\/(27<=op/\op<=30)):qa ⟨op,N⟩ [a,b] env=Ma op a b:=by
 unfold qa;dsimp only;rw[if_neg (by omega),if_neg (by omega),if_neg (by omega),if_neg (by omega),JZ,decide_eq_false (by omega),if_neg (by simp),if_neg (by simp),if_pos (by simp),He,uE,Kaa,Kaa];simp
theorem MA{op N:Int}{a b:GValue}{env:GEnv}(h:(11<=op/\op<=24)\/(27<=op/\op<=30)):za ⟨op,N⟩ [a,b] env=Mb ⟨op,N⟩ a b:=by
 unfold za;dsimp only;have c:(op==5)=false:=by grind
 rw[if_neg (by omega),if_neg (by omega),if_neg (by omega),if_neg (by omega),c,Kaa,if_neg (by simp),if_neg (by omega),if_neg (by omega),if_neg (by omega),if_neg (by omega),if_neg (by omega),JZ,decide_eq_false (by omega),if_neg (by simp),if_neg (by omega),if_neg (by omega),if_neg (by simp),if_pos (by simp),He,uE,Kaa,Kaa,gJ]
def xL(a b:GValue):Prop:=a.Kind=b.Kind/\a.Enum=b.Enum
instance (a b:GValue):Decidable (xL a b):=by unfold xL;infer_instance
theorem Rl(a b:GValue):Ce a b=some (decide (xL a b)):=by
 unfold Ce xL;by_cases c:a.Kind=b.Kind<;>by_cases h2:a.Enum=b.Enum<;>simp[c,h2]
theorem aF{a b:Prop} [Decidable a] [Decidable b]:(if decide a=true then some (decide b)else some false)=some (decide (a/\b)):=by
 grind
theorem smEq{a b:GValue}(h:xL a b) (hn:a.N=b.N):a=b:=by
 obtain⟨k,e,n⟩:=a;obtain⟨k',e',n'⟩:=b;obtain⟨h1,h2⟩:=h
 simp_all
theorem plK1{a:GValue}(h:ic a) (hk:a.Kind=1):a.Enum=0/\(a.N=0\/a.N=1):=by unfold ic at h;omega
theorem plK5{a:GValue}(h:ic a) (hk:a.Kind=5):0<=a.N/\a.N<=109572:=by unfold ic at h;omega
theorem Ns.ite{c:Prop} [Decidable c] {n:GNode}{args:List GValue}{env:GEnv}{v:GValue}{e:Int}(hal:qa n args env=some (decide c)) (hco:c->za n args env=some (v,e)):Ns (Pc n args env):=by
 by_cases h:c
 all_goals grind[Tj,ft]
theorem HN{op N:Int}{a b:GValue}{env:GEnv}(d:op=11\/op=12) (ha:ic a) (hb:ic b):Ns (Pc ⟨op,N⟩ [a,b] env):=by
 have h1:=ha.range;have h2:=hb.range;have c:qa ⟨op,N⟩ [a,b] env=some (decide (xL a b/\2<=a.Kind/\a.Kind<=4)):=by
  rw[mI (by omega)];rcases d with rfl|rfl<;>simp only[Ma,Taa,if_true,if_false,Kaa,Rl,Gg,aF,Waa]
 rcases d with rfl|rfl
 .refine Ns.ite (v:=⟨a.Kind,0,a.N+b.N⟩) (e:=0) c (λ_=>?_);rw[MA (by omega)];simp only[Mb,if_true,Kaa,wid (n:=a.N+b.N) (by omega) (by omega)]
 .refine Ns.ite (v:=⟨a.Kind,0,a.N-b.N⟩) (e:=0) c (λ_=>?_);rw[MA (by omega)];simp only[Mb,Taa,Waa,if_true,if_false,Saa,Kaa,wid (n:=a.N-b.N) (by omega) (by omega)]
theorem IN{op N:Int}{a b:GValue}{env:GEnv}(c:op=17\/op=18) (ha:ic a) (hb:ic b):Ns (Pc ⟨op,N⟩ [a,b] env):=by
 have h1:=ha.range;have hk:(2<=a.Kind/\a.Kind<=5)↔((2<=a.Kind/\a.Kind<=4)\/a.Kind=5):=by omega
 have hal:qa ⟨op,N⟩ [a,b] env=some (decide (xL a b/\2<=a.Kind/\a.Kind<=5)):=by
  rw[mI (by omega)];rcases c with rfl|rfl<;>simp only[Ma,Taa,if_true,if_false,Kaa,Rl,Gg,aF,Waa,Saa,hk]
  all_goals grind
 have hco:xL a b/\2<=a.Kind/\a.Kind<=5->za ⟨op,N⟩ [a,b] env=some ((if(op==17)=decide (a.N<b.N)then a else b),0):=by
  intro hc;rw[MA (by omega)];have he:=λh=>smEq hc.1 h;rcases c with rfl|rfl<;>simp only[Mb,Int.reduceLE,Taa,Waa,if_true,if_false,Kaa,Saa]
  all_goals grind
 grind[Ns.ite]
theorem TH{op N:Int}{a b:GValue}{env:GEnv}(d:op=19\/op=20):Ns (Pc ⟨op,N⟩ [a,b] env):=by
 have c:qa ⟨op,N⟩ [a,b] env=some (decide (xL a b)):=by
  rw[mI (by omega)];rcases d with rfl|rfl<;>simp only[Ma,Taa,if_true,if_false,Kaa,Rl,Waa,Saa]
 rcases d with rfl|rfl
 .refine Ns.ite (v:=⟨1,0,if(a.N==b.N)=true then 1 else 0⟩) (e:=0) c (λ_=>?_)
  simp_all[Mb,MA,Xi]
 .refine Ns.ite (v:=⟨1,0,if(a.N !=b.N)=true then 1 else 0⟩) (e:=0) c (λ_=>?_)
  simp_all[Mb,MA,Xi]
theorem UH{op N:Int}{a b:GValue}{env:GEnv}(d:op=21\/op=22):Ns (Pc ⟨op,N⟩ [a,b] env):=by
 have hk:(2<=a.Kind/\a.Kind<=5)↔((2<=a.Kind/\a.Kind<=4)\/a.Kind=5):=by omega
 have c:qa ⟨op,N⟩ [a,b] env=some (decide (xL a b/\2<=a.Kind/\a.Kind<=5)):=by
  rw[mI (by omega)];rcases d with rfl|rfl<;>simp only[Ma,Taa,if_true,if_false,Kaa,Rl,Gg,aF,Waa,Saa,hk]
  all_goals grind
 rcases d with rfl|rfl
 .refine Ns.ite (v:=⟨1,0,if decide (a.N<b.N)=true then 1 else 0⟩) (e:=0) c (λ_=>?_)
  simp_all[Mb,MA,Xi]
 .refine Ns.ite (v:=⟨1,0,if decide (a.N<=b.N)=true then 1 else 0⟩) (e:=0) c (λ_=>?_)
  simp_all[Mb,MA,Xi]
theorem JN{op N:Int}{a b:GValue}{env:GEnv}(c:op=23\/op=24) (ha:ic a) (hb:ic b):Ns (Pc ⟨op,N⟩ [a,b] env):=by
 have d:qa ⟨op,N⟩ [a,b] env=some (decide (a.Kind=1/\b.Kind=1)):=by
  rw[mI (by omega)];rcases c with rfl|rfl<;>simp only[Ma,Taa,if_true,if_false,Kaa,Waa,Saa]
  all_goals grind
 refine Ns.ite (v:=⟨1,0,if(if op=23 then decide (a.N=1/\b.N=1)else decide (a.N=1\/b.N=1))=true then 1 else 0⟩) (e:=0) d λhc=>?_;have n1:=(plK1 ha hc.1).2;have n2:=(plK1 hb hc.2).2;rw[MA (by omega)];rcases c with rfl|rfl<;>simp only[Mb,Taa,Waa,if_true,if_false,Saa,Kaa,Xi]
 all_goals grind
theorem xX{N:Int}{a b:GValue}{env:GEnv}(ha:ic a) (hb:ic b):Ns (Pc ⟨27,N⟩ [a,b] env):=by
 have h1:=ha.range;have h2:=hb.range;have c:qa ⟨27,N⟩ [a,b] env=some (decide (a.Kind=5/\b.Kind=2)):=by
  rw[mI (by omega)]
  grind[Ma]
 refine Ns.ite (v:=⟨5,0,a.N+b.N⟩) (e:=0) c (λhc=>?_);rw[MA (by omega)];simp only[Mb,Taa,Waa,if_true,if_false,Saa,Kaa,wid (n:=a.N+b.N) (by omega) (by omega),hc.1]
theorem am_p(a:Int) (j:Int) (ha:0<=a/\a<=109572):∃p,Sf a j=some p:=by
 by_cases b:-3600<=j/\j<=3600
 .obtain⟨n,m,k,c⟩:=DL ha.1 ha.2;exact⟨_,Nv c b⟩
 simp_all[Sf,dq]
theorem yX{N:Int}{a b:GValue}{env:GEnv}(ha:ic a):Ns (Pc ⟨28,N⟩ [a,b] env):=by
 have c:qa ⟨28,N⟩ [a,b] env=some (decide (a.Kind=5/\b.Kind=2)):=by
  rw[mI (by omega)]
  grind[Ma]
 by_cases hc:a.Kind=5/\b.Kind=2
 .obtain⟨p,p1⟩:=am_p a.N b.N (plK5 ha hc.1);rw[decide_eq_true hc]at c;refine Tj (v:=⟨5,0,p.1⟩) (e:=p.2) c ?_
  simp_all[Mb,MA]
 grind[ft]
theorem LN{op N:Int}{a b:GValue}{env:GEnv}(d:op=29\/op=30) (ha:ic a) (hb:ic b):Ns (Pc ⟨op,N⟩ [a,b] env):=by
 have h1:=ha.range;have h2:=hb.range;have c:qa ⟨op,N⟩ [a,b] env=some (decide (a.Kind=5/\b.Kind=5)):=by
  rw[mI (by omega)];rcases d with rfl|rfl<;>simp only[Ma,Taa,if_true,if_false,Kaa,Waa,Saa]
  all_goals grind
 obtain⟨y,y1,-⟩:=I4 a.N b.N;rcases d with rfl|rfl
 .refine Ns.ite (v:=⟨2,0,b.N-a.N⟩) (e:=0) c (λhc=>?_);rw[MA (by omega)];simp only[Mb,Taa,Waa,if_true,if_false,Saa,Kaa,wid (n:=b.N-a.N) (by omega) (by omega)]
 .refine Ns.ite (v:=⟨2,0,y⟩) (e:=0) c (λhc=>?_)
  simp_all[Mb,MA]
theorem onB_s(def_ date:Int) (r:GRule):Xc r def_ date=some (Cu def_ date r):=by
 grind[Xc,Cu,Si]
theorem Fo{s:GScope}(hs:s.Rules.length<=1048576) (def_ date:Int):Fe s def_ date=some (zi s.Rules (Cu def_ date) s.Rules.length).1:=by
 grind[Fe,Uq,onB_s]
def rG(s:GScope) (l:List Int):List (List GNode):=(l.map λi=>((s.Rules[i.toNat]?).map (·.Guard)).getD []).filter λg=>decide (0<g.length)
theorem PM{s:GScope}{l:List Int}(hl:l.length<=1048576) (hm:∀x∈l,0<=x/\x<(s.Rules.length:Int)) {step:List (List GNode)×Int->Option (Ex (List (List GNode)×Int) (List (List GNode)) Unit)}
 (a:step=Qf s l):da step (([]:List (List GNode)),0)=some (.inl (rG s l)):=by
 subst a;have b:∀k,(rG s (l.take k)).length<=k:=λk=>by
  grind[rG]
 refine Rc (λi=>(rG s (l.take i),(i:Int))) l.length _ (λi hi=>?_) (by grind[Qf]) rfl;have hx:=hm _ (Qaa hi);have:=b i;have ht:rG s (l.take (i+1))=rG s (l.take i)++(if 0<(s.Rules[l[i].toNat]'(by omega)).Guard.length then [(s.Rules[l[i].toNat]'(by omega)).Guard]else []):=by
  unfold rG;rw[tab,Maa hi,Vab,Tab,aac,List.map_singleton,Maa (l:=s.Rules) (by omega)]
  grind
 unfold Qf;simp only;rw[if_pos (by omega),Ca hi,Kaa,Ng hx.1 hx.2,Kaa,ya (by omega),ht];by_cases c:0<(s.Rules[l[i].toNat]'(by omega)).Guard.length
 .rw[if_pos (by omega),if_pos c,wi (by grind)];rfl
 simp_all
noncomputable def Al(s:GScope) (def_ date:Int):List (List GNode):=rG s (zi s.Rules (Cu def_ date) s.Rules.length).1
theorem mz{s:GScope}(a:s.Rules.length<=1048576) (def_ date:Int):Oi s def_ date=some (Al s def_ date):=by
 unfold Oi;have hm:=Bj (rules:=s.Rules) (q:=Cu def_ date) s.Rules.length;have hl:=(Jn (rules:=s.Rules) (q:=Cu def_ date) s.Rules.length).2.1;rw[Fo a,Kaa,PM (by omega) (λx hx=>⟨(hm x hx).1,(hm x hx).2.1⟩) rfl];rfl
theorem pH{s:GScope}(a:s.Rules.length<=1048576) (def_ date:Int):Jq s def_ date=some (Al s def_ date):=by
 unfold Jq;have hm:=Bj (rules:=s.Rules) (q:=Cu def_ date) s.Rules.length;have hl:=(Jn (rules:=s.Rules) (q:=Cu def_ date) s.Rules.length).2.1;rw[KE a,Kaa,PM (s:=s) (l:=(zi s.Rules (Cu def_ date) s.Rules.length).1) (step:=Xs s _) (by omega) (λx hx=>⟨(hm x hx).1,(hm x hx).2.1⟩) rfl];rfl
theorem OM{s:GScope}{def_ date:Int}{g:List GNode}(h:g∈Al s def_ date):∃r∈s.Rules,r.Guard=g:=by
 unfold Al rG at h
 grind
theorem aB(s:GScope) (def_ date:Int):(Al s def_ date).length<=s.Rules.length:=by
 grind[Al,rG,Jn]
theorem jK{l:List GEnum}(hl:l.length<=1048576) (hm:∀x∈l,x.Members.length<=1099511627776):vn l=some l:=by
 unfold vn;have h1:da (mj l) (([]:List GEnum),0)=some (.inl l):=by
  refine Rc (λi=>(l.take i,(i:Int))) l.length _ (λi hi=>?_) (by grind[mj]) rfl;unfold mj Re;simp only;rw[if_pos (by omega),Ca hi,Kaa,if_pos (hm _ (Qaa hi)),Kaa,wi (by grind),Kaa,ya (by omega),tab,Maa hi];rfl
 simp_all
theorem pI{l:List GTable}(hl:l.length<=1048576) (hm:∀x∈l,x.Rows.length<=1099511627776):Tl l=some l:=by
 unfold Tl;have h1:da (Nh l) (([]:List GTable),0)=some (.inl l):=by
  refine Rc (λi=>(l.take i,(i:Int))) l.length _ (λi hi=>?_) (by grind[Nh]) rfl;unfold Nh Wd;simp only;rw[if_pos (by omega),Ca hi,Kaa,if_pos (hm _ (Qaa hi)),Kaa,wi (by grind),Kaa,ya (by omega),tab,Maa hi];rfl
 simp_all
theorem n3(l:GLaw) (s:GScope):(Jo l s).Enums=l.Enums/\(Jo l s).Tables=l.Tables:=by
 unfold Jo;grind
theorem wE{l:GLaw}(h:LawOk l) (hm:∀x∈l.Enums,x.Members.length<=1099511627776) (hr:∀x∈l.Tables,x.Rows.length<=1099511627776) {i:Nat}(hi:i<l.Scopes.length):Qo l (i:Int)=some (Jo l l.Scopes[i]):=by
 unfold Qo;obtain⟨a,b⟩:=n3 l l.Scopes[i];rw[if_pos (by omega),Kaa,if_neg (by simp_all),Am h hi,Kaa,a,jK h.ne hm,Kaa,b,pI h.nt hr,Kaa,←a,←b]
structure SkInv (i:Nat) (st sk:List Int):Prop where
 len:st.length=i
 pos:0<i->sk≠[]
 zero:i=0->sk=[]
 last:∀k,k+1=sk.length->st[i-1]?=sk[k]?
 chain:∀j,j+1<sk.length->∃a b:Nat,sk[j]?=some (a:Int)/\sk[j+1]?=some (b:Int)/\a<b/\st[b-1]?=some (a:Int)
 bound:∀j,j<sk.length->∃a:Nat,sk[j]?=some (a:Int)/\a<i
theorem zP{e:List GNode}(h:Wst e):∀i,i<=e.length->SkInv i (Bg e i).1 (Bg e i).2
 |0,_=>by
  refine⟨rfl,by omega,λ_=>rfl,?_,?_,?_⟩
  all_goals grind[Bg]
 |i+1,hi=>by
  have d:=zP h i (by omega);obtain⟨a1,q,a3⟩:=h.ar (i:=i) (by omega);have p:Bg e (i+1)=((Bg e i).1++[if 0<Oc e i then((Bg e i).2[(Bg e i).2.length-Oc e i]?).getD 0 else(i:Int)],(Bg e i).2.take ((Bg e i).2.length-Oc e i)++[if 0<Oc e i then((Bg e i).2[(Bg e i).2.length-Oc e i]?).getD 0 else(i:Int)]):=rfl;rw[p];generalize (Bg e i).1=st at d⊢;generalize (Bg e i).2=sk at d q⊢;generalize Oc e i=a at q⊢;obtain⟨f,hf,hfi,n⟩:∃f:Nat,(if 0<a then(sk[sk.length-a]?).getD 0 else(i:Int))=(f:Int)/\f<=i/\(∀j,j+1=sk.length-a->∃b:Nat,sk[j]?=some (b:Int)/\b<f/\st[f-1]?=some (b:Int)):=by
   by_cases ha:0<a
   .obtain⟨f,h1,h2⟩:=d.bound (sk.length-a) (by omega);refine⟨f,by simp_all,by omega,λj m=>?_⟩;obtain⟨x,y,l,g,k3,k4⟩:=d.chain j (by omega)
    grind
   .refine⟨i,by omega,by omega,λj m=>?_⟩;obtain⟨x,l,g⟩:=d.bound j (by omega);refine⟨x,l,g,?_⟩;rw[←l];exact d.last j (by omega)
  rw[hf];have c:(sk.take (sk.length-a)).length=sk.length-a:=by simp
  refine⟨by simp[d.len],λ_=>by simp,λh=>by omega,?_,?_,?_⟩
  .intro k hk;simp only[uab,c,Hab]at hk;rw[uae,vac (by rw[d.len];omega),d.len,Cac,vac (by omega),c,show k-(sk.length-a)=0 by omega]
  .intro j m;simp only[uab,c,Hab]at m;by_cases o:j+1<sk.length-a
   .obtain⟨x,y,l,g,k3,k4⟩:=d.chain j (by omega);obtain⟨y',q1,q2⟩:=d.bound (j+1) (by omega);rw[g]at q1;injection q1 with q1;refine⟨x,y,?_,?_,k3,?_⟩
    all_goals grind
   .obtain⟨x,l,g,k3⟩:=n j (by omega);refine⟨x,f,?_,?_,g,?_⟩
    all_goals grind
  .intro j m;simp only[uab,c,Hab]at m;by_cases o:j<sk.length-a
   .obtain⟨x,l,g⟩:=d.bound j (by omega)
    grind
   grind
theorem yL{e:List GNode}:∀{n i k:Nat},i<=n->k<i->(Bg e n).1[k]?=(Bg e i).1[k]?
 |0,i,k,h,hk=>by omega
 |n+1,i,k,h,hk=>by
  by_cases hin:i=n+1
  .simp_all
  .have:(Bg e (n+1)).1=(Bg e n).1++[if 0<(Ab (Aa e n).Op).toNat then((Bg e n).2[(Bg e n).2.length-(Ab (Aa e n).Op).toNat]?).getD 0 else(n:Int)]:=rfl;rw[this,List.getElem?_append_left (by grind[ZB])];exact yL (by omega) hk
def Sk(e:List GNode) (i j:Nat):Nat:=if j+1=Oc e i then i-1 else(((Bg e i).2[(Bg e i).2.length-Oc e i+j+1]?).getD 0).toNat-1
def Yy(e:List GNode) (i:Nat):List Int:=(Zaa (Oc e i)).map λj=>(Sk e i j:Int)
theorem Hm{e:List GNode}(h:Wst e) {i:Nat}(hi:i<e.length) {j:Nat}(p:j<Oc e i):Sk e i j<i/\∃s:Nat,(Bg e e.length).1[Sk e i j]?=some (s:Int)/\(∀d,d+1=j->Sk e i d+1=s):=by
 have b:=zP h i (by omega);obtain⟨a1,l,a3⟩:=h.ar hi;have hi0:0<i:=by
  rcases Nat.eq_zero_or_pos i with m|m
  .have:=b.zero m;simp_all
  omega
 have g:Sk e i j<i/\∃s:Nat,(Bg e i).1[Sk e i j]?=some (s:Int)/\(Bg e i).2[(Bg e i).2.length-Oc e i+j]?=some (s:Int):=by
  unfold Sk;generalize (Bg e i).1=st at b⊢;generalize (Bg e i).2=sk at b l⊢;generalize Oc e i=a at l p⊢;by_cases c:j+1=a
  .rw[if_pos c];obtain⟨x,k,n⟩:=b.bound (sk.length-a+j) (by omega);exact⟨by omega,x,by rw[b.last (sk.length-a+j) (by omega)];omega,k⟩
  .rw[if_neg c];obtain⟨x,y,k,n,k3,k4⟩:=b.chain (sk.length-a+j) (by omega);obtain⟨y',q1,q2⟩:=b.bound (sk.length-a+j+1) (by omega)
   grind
 obtain⟨o,s,h2,h3⟩:=g;refine⟨o,s,by grind[yL],λd f=>?_⟩;subst f;obtain⟨x,y,k,n,k3,k4⟩:=b.chain ((Bg e i).2.length-Oc e i+d) (by omega)
 grind[Sk]
theorem OH{e:List GNode}(h:Wst e):∀{n k s:Nat},n<=e.length->(Bg e n).1[k]?=some (s:Int)->s<=k
 |0,k,s,_,a=>by grind[Bg]
 |n+1,k,s,hn,a=>by
  have hk:k<n+1:=by
   grind[ZB]
  by_cases b:k=n
  .subst b;have c:=zP h (k+1) hn;have hne:=c.pos (by omega);obtain⟨q,hq⟩:∃q,q+1=(Bg e (k+1)).2.length:=⟨(Bg e (k+1)).2.length-1,by grind[List.length_pos_iff]⟩;have d:=c.last q hq;rw[uae,a]at d;obtain⟨x,k1,k2⟩:=c.bound q (by omega)
   grind
  .rw[yL (i:=n) (by omega) (by omega)]at a;exact OH h (by omega) a
theorem vu{e:List GNode}(h:Wst e):Jm e=((Bg e e.length).1,0,0):=by
 have:=h.pos;have:=h.le;have:=h.one;unfold Jm;rw[if_neg (by omega),if_neg (by omega),Hb.2 h.err]
 simp_all
theorem lN{e:List GNode}(h:Wst e) {i:Nat}(hi:i<e.length) {step:List Int×Int×Int->Option (Ex (List Int×Int×Int) (List Int) Unit)}
 (g:∀a b c,step (a,b,c)=if 0<=c then(idx a c).bind λ_=>(put a c b).bind λo=>(idx (Bg e e.length).1 b).bind λk=>some (.go (o,ca .i64 (k-1),ca .i64 (c-1)))else some (.brk a)) :
 da step (Oaa (Oc e i) 0,(i:Int)-1,(Oc e i:Int)-1)=some (.inl (Yy e i)):=by
 have hle:=h.le;obtain⟨a1,a2,a3⟩:=h.ar hi;have ha3:Oc e i<=12:=by have:=Sp (e:=e) (i:=i) λj m=>h.err j (by omega);omega
 refine Rc (λt=>(Oaa (Oc e i-t) 0++(Yy e i).drop (Oc e i-t),(if t=0 then(i:Int)-1 else if t=Oc e i then(((Bg e e.length).1[Sk e i 0]?).getD 0)-1 else(Sk e i (Oc e i-t-1):Int)),(Oc e i:Int)-1-t)) (Oc e i) _ (λt ht=>?_) ?_ ?_
 .obtain⟨j,m⟩:∃j,Oc e i=t+j+1:=⟨Oc e i-t-1,by omega⟩;obtain⟨o1,s,l,o3⟩:=Hm h hi (j:=j) (by omega);rw[g];have d:(if t=0 then(i:Int)-1 else if t=Oc e i then(((Bg e e.length).1[Sk e i 0]?).getD 0)-1 else(Sk e i (Oc e i-t-1):Int))=(Sk e i j:Int):=by
   by_cases t0:t=0
   .grind[Sk]
   grind
  rw[d,if_pos (by omega),show(Oc e i:Int)-1-t=((j:Nat):Int) by omega];have hL:(Yy e i).length=Oc e i:=by simp[Yy]
  rw[Ca (i:=j) (by grind),Kaa,yv (by grind),Kaa];rw[RM,l,Kaa];have f:(Oaa (Oc e i-t) 0++(Yy e i).drop (Oc e i-t)).set j (Sk e i j:Int)=Oaa (Oc e i-(t+1)) 0++(Yy e i).drop (Oc e i-(t+1)):=by
   rw[show Oc e i-t=j+1 by omega,show Oc e i-(t+1)=j by omega,hac,Oab,zad _ _ (by simp),Gab,Cac]
   grind[Yy,Fab]
  have hlt:Sk e i j<(Bg e e.length).1.length:=by grind
  have g:(s:Int)-1=(if t+1=0 then(i:Int)-1 else if t+1=Oc e i then(((Bg e e.length).1[Sk e i 0]?).getD 0)-1 else(Sk e i (Oc e i-(t+1)-1):Int)):=by
   rw[if_neg (by omega)];by_cases j0:j=0
   all_goals grind
  have hsb:(0:Int)<=s/\(s:Int)<=100:=by
   have:=OH h (dab _) l;omega
  rw[f,wid (n:=(s:Int)-1) (by omega) (by omega),wid (n:=((j:Nat):Int)-1) (by omega) (by omega),g];congr 4;omega
 .grind
 simp_all[Yy]
theorem YC{e:List GNode}(h:Wst e) {i:Nat}(hi:i<e.length):Gk e (i:Int)=some (Yy e i):=by
 have hle:=h.le;obtain⟨a1,a2,a3⟩:=h.ar hi;have ha3:Oc e i<=12:=by have:=Sp (e:=e) (i:=i) λj hj=>h.err j (by omega);omega
 have f:Ab (Aa e i).Op=(Oc e i:Int):=by grind[Oc]
 unfold Gk;rw[dv,vu h,Kaa];dsimp only;have d:(if(0:Int)=0 then if¬(i:Int)<0 then some (decide ((e.length:Int)<=(i:Int)))else some true else some true)=some false:=by
  simp_all
 rw[d];simp only[Kaa,Saa,if_false];rw[Ca hi,Kaa,Qe hi,Av,Kaa,f,dw (by omega) (by omega),Kaa,wid (n:=(i:Int)-1) (by omega) (by omega),wid (n:=(Oc e i:Int)-1) (by omega) (by omega),lN h hi λa b c=>by grind[Gq]];rfl
theorem rE{e:List GNode}(h:Wst e) {i:Nat}(hi:i<e.length):Oo e (i:Int)=some (Yy e i):=by
 have hle:=h.le;obtain⟨a1,a2,a3⟩:=h.ar hi;have ha3:Oc e i<=12:=by have:=Sp (e:=e) (i:=i) λj f=>h.err j (by omega);omega
 have c:Ab (Aa e i).Op=(Oc e i:Int):=by grind[Oc]
 unfold Oo aj;rw[uk,vu h,Kaa,Kaa];dsimp only;rw[if_pos rfl,if_pos (by omega),Kaa,if_neg (by simp_all),Ca hi,Kaa,Qe hi,Zi,Kaa,c,dw (by omega) (by omega),Kaa,Gab,wid (n:=(i:Int)-1) (by omega) (by omega),wid (n:=(Oc e i:Int)-1) (by omega) (by omega)];have hl:da (pk ((Bg e e.length).1,0)) (Oaa (Oc e i) 0,(i:Int)-1,(Oc e i:Int)-1)=some (.inl (Yy e i)):=by
  refine Rc (λt=>(Oaa (Oc e i-t) 0++(Yy e i).drop (Oc e i-t),(if t=0 then(i:Int)-1 else if t=Oc e i then(((Bg e e.length).1[Sk e i 0]?).getD 0)-1 else(Sk e i (Oc e i-t-1):Int)),(Oc e i:Int)-1-t)) (Oc e i) _ (λt ht=>?_) ?_ ?_
  .obtain⟨j,f⟩:∃j,Oc e i=t+j+1:=⟨Oc e i-t-1,by omega⟩;obtain⟨o1,s,d,o3⟩:=Hm h hi (j:=j) (by omega);unfold pk;dsimp only;have a:(if t=0 then(i:Int)-1 else if t=Oc e i then(((Bg e e.length).1[Sk e i 0]?).getD 0)-1 else(Sk e i (Oc e i-t-1):Int))=(Sk e i j:Int):=by
    by_cases t0:t=0
    .grind[Sk]
    grind
   rw[a,if_pos (by omega),show(Oc e i:Int)-1-t=((j:Nat):Int) by omega];have hL:(Yy e i).length=Oc e i:=by simp[Yy]
   rw[Ca (i:=j) (by grind),Kaa,yv (by grind),Kaa];rw[RM,d,Kaa];have b:(Oaa (Oc e i-t) 0++(Yy e i).drop (Oc e i-t)).set j (Sk e i j:Int)=Oaa (Oc e i-(t+1)) 0++(Yy e i).drop (Oc e i-(t+1)):=by
    rw[show Oc e i-t=j+1 by omega,show Oc e i-(t+1)=j by omega,hac,Oab,zad _ _ (by simp),Gab,Cac]
    grind[Yy,Fab]
   have hlt:Sk e i j<(Bg e e.length).1.length:=by grind
   have g:(s:Int)-1=(if t+1=0 then(i:Int)-1 else if t+1=Oc e i then(((Bg e e.length).1[Sk e i 0]?).getD 0)-1 else(Sk e i (Oc e i-(t+1)-1):Int)):=by
    rw[if_neg (by omega)];by_cases j0:j=0
    all_goals grind
   have hsb:(0:Int)<=s/\(s:Int)<=100:=by
    have:=OH h (dab _) d;omega
   rw[b,wid (n:=(s:Int)-1) (by omega) (by omega),wid (n:=((j:Nat):Int)-1) (by omega) (by omega),g];congr 4;omega
  .grind[pk]
  simp[Yy]
 simp_all
def qB(op:Int):Bool:=decide (2<=op)&&decide (op<=6)
def lz(op:Int):Bool:=decide (19<=op)&&decide (op<=22)
theorem Ws(op:Int):Sj op=some (qB op):=by grind[Sj,qB]
theorem ku(op:Int):rh op=some (lz op):=by grind[rh,lz]
theorem aq(n:GNode):Cg n=some (qB n.Op):=by
 grind[Cg,qB]
theorem Sr(n:GNode):xf n=some (lz n.Op):=by
 grind[xf,lz]
def Hy(e:List GNode) (i:Nat):Option (Int×GNode):=
 if Oc e i=2 then
  (
   if(Aa e (Sk e i 0)).Op=7/\qB (Aa e (Sk e i 1)).Op=true then some ((Aa e (Sk e i 0)).N,Aa e (Sk e i 1))
   else if(Aa e (Sk e i 1)).Op=7/\qB (Aa e (Sk e i 0)).Op=true then some ((Aa e (Sk e i 1)).N,Aa e (Sk e i 0))else none)
 else none
def hX:Option (Int×GNode)->Int×GNode×Bool
 |some v=>(v.1,v.2,true)
 |none=>(0,⟨0,0⟩,false)
def wL:Option (Int×GNode)->GNode×GNode×Bool
 |some v=>(⟨7,v.1⟩,v.2,true)
 |none=>(⟨0,0⟩,⟨0,0⟩,false)
theorem opL2{e:List GNode}{i:Nat}(h2:Oc e i=2):Yy e i=[(Sk e i 0:Int),(Sk e i 1:Int)]:=by
 unfold Yy;rw[h2];rfl
theorem Mx{e:List GNode}(h:Wst e) {i:Nat}(hi:i<e.length):jd e (i:Int)=some (hX (Hy e i)):=by
 unfold jd Hy;rw[rE h hi,Kaa];by_cases h2:Oc e i=2
 .have o1:=(Hm h hi (j:=0) (by omega)).1;have o2:=(Hm h hi (j:=1) (by omega)).1;rw[if_pos h2,opL2 h2,if_neg (by simp),He,uE,Kaa,Ca (by omega),Kaa,Qe (by omega),Kaa];rw[Ca (by omega),Kaa,Qe (by omega),aq,aq]
  grind[hX]
 .have hL:(Yy e i).length=Oc e i:=by simp[Yy]
  rw[if_neg h2,if_pos (by omega)];rfl
theorem yy{e:List GNode}(h:Wst e) {i:Nat}(hi:i<e.length):uo e (i:Int)=some (wL (if lz (Aa e i).Op=true then Hy e i else none)):=by
 unfold uo Hy;rw[YC h hi,Kaa,Ca hi,Kaa,Qe hi,ku,Kaa];have hL:(Yy e i).length=Oc e i:=by simp[Yy]
 cases lz (Aa e i).Op
 .rfl
 simp only[if_true,Kaa];by_cases h2:Oc e i=2
 .have o1:=(Hm h hi (j:=0) (by omega)).1;have o2:=(Hm h hi (j:=1) (by omega)).1;rw[if_pos h2,if_neg (by simp_all),opL2 h2,He,uE,Kaa,Ca (by omega),Kaa,Qe (by omega),Kaa];rw[Ca (by omega),Kaa,Qe (by omega),Ws,Ws];generalize Aa e (Sk e i 0)=a;generalize Aa e (Sk e i 1)=b;obtain⟨ao,an⟩:=a;obtain⟨d,bn⟩:=b;by_cases ha:ao=7
  .subst ha;cases hb:qB d
   .by_cases c:d=7
    .subst c;have:qB 7=false:=rfl
     grind[wL]
    grind[wL]
   grind[wL]
  grind[wL]
 .rw[if_neg h2,if_pos (by grind)];rfl
def uq(e:List GNode) (i:Nat):Bool:=
 if lz (Aa e i).Op=true then(Hy e i).isSome else(Aa e i).Op==1 || (Aa e i).Op==23 || (Aa e i).Op==24 || (Aa e i).Op==25 || (Aa e i).Op==7 || qB (Aa e i).Op
noncomputable def Fm(e:List GNode) (s:GSignature):Bool:=
 decide ((Uj e s).2.2=0)&&((Uj e s).1.Kind==1&&(Uj e s).1.Enum==0)&&(ff (λi=>if uq e i=true then none else some false) e.length).isNone
theorem cI{e:List GNode}{s:GSignature}(h:(Uj e s).2.2=0):Wst e:=by
 grind[Uj,DA]
theorem DN{o:Option (Int×GNode)}:(hX o).2.2=o.isSome/\(wL o).2.2=o.isSome:=by cases o<;>exact⟨rfl,rfl⟩
theorem HM{f:Nat->Bool}{n:Nat}:(match (jc () (ff (λi=>if f i=true then none else some false) n):Unit⊕Bool)with|.inr v=>some v|.inl _=>some true)=some (ff (λi=>if f i=true then none else some false) n).isNone:=by
 cases h:ff (λi=>if f i=true then none else some false) n with
 |none=>rfl
 |some v=>
  obtain⟨k,-,h2,-⟩:=Oa.1 h;split at h2
  .grind
  .injection h2 with h2;subst h2;rfl
theorem EF{e:List GNode}(hN:∀n∈e,Xa n) (s:GSignature):Vn e s=some (Fm e s):=by
 unfold Vn Fm;rw[Pz hN,Kaa];by_cases a:(Uj e s).2.2=0
 .have hw:=cI a;have hle:=hw.le;rw[if_pos a,Kaa,decide_eq_true a];cases (Uj e s).1.Kind==1&&(Uj e s).1.Enum==0
  .rfl
  .simp only[yac,Saa,if_false,Iab];have hl:da (Ql e) 0=some (jc () (ff (λi=>if uq e i=true then none else some false) e.length)):=
    bc (λi=>(i:Int)) _ _ _ (λi hi _=>by
     unfold Ql uq;rw[if_pos (by omega),Ca hi,Kaa,Qe hi,aq,Sr,Mx hw hi,ya (by omega)];simp only[Kaa,DN.1];generalize (Hy e i).isSome=c
     grind[lz,sG,qB]) (λ_=>by grind[Ql])
   rw[hl];exact HM
 simp_all
theorem oH{e:List GNode}(hN:∀n∈e,Xa n) (s:GSignature):so e s=some (Fm e s):=by
 unfold so Fm;rw[vy hN,Kaa];by_cases a:(Uj e s).2.2=0
 .have hw:=cI a;have hle:=hw.le;rw[if_pos a,Kaa,decide_eq_true a];cases (Uj e s).1.Kind==1&&(Uj e s).1.Enum==0
  .rfl
  .simp only[yac,Saa,if_false,Iab];have hl:da (gm e) 0=some (jc () (ff (λi=>if uq e i=true then none else some false) e.length)):=
    bc (λi=>(i:Int)) _ _ _ (λi hi _=>by
     unfold gm uq;rw[if_pos (by omega),Ca hi,Kaa,Qe hi,ku,Ws,yy hw hi,ya (by omega)];simp only[Kaa,DN.2]
     grind[sG]) (λ_=>by grind[gm])
   rw[hl];exact HM
 simp_all
theorem Tu{l:List Int}{p:Int->Bool}{i:Nat}(hi:i<l.length):(l.take (i+1)).filter p=(l.take i).filter p++(if p l[i]=true then [l[i]]else []):=by
 rw[tab,Maa hi,Vab,aac]
 grind
theorem Iw{l:List Int}{p:Int->Bool}{i:Nat}:((l.take i).filter p).length<=i:=by
 grind
theorem VO{l:List Int}{n:Int}(h:EL l):l.filter (λx=>decide (x<n))++[n]++l.filter (λx=>decide (n<x))=xk l n:=by
 refine gB ?_ (Zx h) λx=>?_
 .rw[Oab];refine List.pairwise_append.2 ⟨h.filter _,?_,λa ha b hb=>?_⟩
  all_goals grind
 .rw[cw]
  grind
theorem cu{l:List Int}{n:Int}(h:EL l) (hl:l.length<=1099511627776):Fl l n=some (xk l n):=by
 unfold Fl;have a:da (Wl l n) (([]:List Int),0)=some (.inl (l.filter λx=>decide (x<n))):=by
  refine Rc (λi=>((l.take i).filter λx=>decide (x<n),(i:Int))) l.length _ (λi hi=>?_) (by grind[Wl]) rfl;have:=Iw (l:=l) (p:=λx=>decide (x<n)) (i:=i);unfold Wl;simp only;rw[if_pos (by omega),Ca hi,Kaa,ya (by omega),Tu hi];by_cases hx:l[i]<n
  .rw[if_pos hx,if_pos (by simp_all),wi (by grind)];rfl
  grind
 rw[a,Kaa];simp only;have hlen:=Pab (λx=>decide (x<n)) l;rw[wi (by grind),Kaa];have h2:da (Vl l n) (l.filter (λx=>decide (x<n))++[n],0)=some (.inl (l.filter (λx=>decide (x<n))++[n]++l.filter λx=>decide (n<x))):=by
  refine Rc (λi=>(l.filter (λx=>decide (x<n))++[n]++(l.take i).filter λx=>decide (n<x),(i:Int))) l.length _ (λi hi=>?_) (by grind[Vl]) (by simp);have:=Iw (l:=l) (p:=λx=>decide (n<x)) (i:=i);unfold Vl;simp only;rw[if_pos (by omega),Ca hi,Kaa,ya (by omega),Tu hi];by_cases hx:n<l[i]
  .rw[if_pos hx,if_pos (by simp_all),wi (by grind)];simp
  grind
 grind[VO]
def cutAt(e:List GNode) (fk:Int) (i:Nat):List Int:=
 if lz (Aa e i).Op=true then
  match Hy e i with
  |some v=>if v.1=fk/\¬v.2.Op=6 then(if v.2.N<9223372036854775807 then [v.2.N,v.2.N+1]else [v.2.N])else []
  |none=>[]
 else []
theorem vR(e:List GNode) (fk:Int) (i:Nat):(cutAt e fk i).length<=2:=by
 grind[cutAt]
def bl(e:List GNode) (fk:Int):Nat->List Int
 |0=>[]
 |k+1=>bl e fk k++cutAt e fk k
theorem xw(e:List GNode) (fk:Int):∀k,(bl e fk k).length<=2*k
 |0=>by simp[bl]
 |k+1=>by
  have:=xw e fk k
  grind[bl,vR]
def Gc(gs:List (List GNode)) (fk:Int):Nat->List Int
 |0=>[]
 |k+1=>Gc gs fk k++(match gs[k]? with|some e=>bl e fk e.length|none=>[])
theorem Tr{gs:List (List GNode)}(hw:∀g∈gs,Wst g) (fk:Int):∀k,(Gc gs fk k).length<=96*k
 |0=>by simp[Gc]
 |k+1=>by
  have:=Tr hw fk k;simp only[Gc,uab];split
  .rename_i e he;have h1:=xw e fk e.length;have h2:=(hw e (qab he)).le;omega
  grind
theorem iX{e:List GNode}(hN:∀n∈e,Xa n) (hw:Wst e) {i:Nat}(hi:i<e.length) {v:Int×GNode}(hv:Hy e i=some v):Xa v.2:=by
 unfold Hy at hv;split at hv
 .rename_i h2;have o1:=(Hm hw hi (j:=0) (by omega)).1;have o2:=(Hm hw hi (j:=1) (by omega)).1
  grind[KV]
 simp_all
theorem KA{gs:List (List GNode)}(hg:gs.length<=1048576) (hw:∀g∈gs,Wst g) (hN:∀g∈gs,∀n∈g,Xa n) (fk:Int):Pl gs fk=some (Wc (Gc gs fk gs.length)):=by
 unfold Pl;have hl:da (vh gs fk) (([]:List Int),0)=some (.inl (Gc gs fk gs.length)):=by
  refine Rc (λk=>(Gc gs fk k,(k:Int))) gs.length _ (λk hk=>?_) (by grind[vh]) rfl;have c:=Tr hw fk k;have b:=hw _ (Qaa hk);have d:=hN _ (Qaa hk);have j:=b.le;unfold vh aj;simp only[Gc,Maa hk];rw[if_pos (by omega),Ca hk,Kaa,ya (by omega)];generalize gs[k]=e at b d j⊢;generalize Gc gs fk k=a at c⊢;rw[uk,vu b,Kaa,Kaa,if_neg (by simp)];have h2:da (uh fk e) (a,0)=some (.inl (a++bl e fk e.length)):=by
   refine Rc (λi=>(a++bl e fk i,(i:Int))) e.length _ (λi hi=>?_) (by grind[uh]) (by simp[bl]);have h3:=xw e fk i;have h:=λv (hv:Hy e i=some v)=>iX d b hi hv;unfold uh;simp only[bl,cutAt];rw[if_pos (by omega),Ca hi,Kaa,Qe hi,Sr,Kaa,Mx b hi,Kaa,ya (by omega)];cases lz (Aa e i).Op
   .simp
   simp only[jab,if_false,if_true]
   cases hv:Hy e i with
   |none=>simp[hX]
   |some v=>
    have l:=h v hv;unfold Xa at l;rw[show hX (some v)=(v.1,v.2,true)from rfl,if_pos rfl];dsimp only;by_cases f:v.1=fk
    .by_cases m:v.2.Op=6
     .simp_all
     .rw[if_pos f,if_pos ⟨f,m⟩,Kaa,if_neg (by simp_all),wi (by grind),Kaa];by_cases hm:v.2.N<9223372036854775807
      .rw[if_pos hm,if_pos hm,wid (n:=v.2.N+1) (by omega) (by omega),wi (by grind)];simp
      grind
    simp_all
  simp_all
 have c:=Tr hw fk gs.length;rw[hl,Kaa];simp only[gb,Ra];rw[if_pos (by omega),Kaa,if_pos (by simp;omega),Kaa,Dr]
theorem pJ{a b:List Int}:Wc (a++b)=b.foldl xk (Wc a):=by grind[Wc]
theorem HB{gs:List (List GNode)}(hg:gs.length<=1048576) (hw:∀g∈gs,Wst g) (hN:∀g∈gs,∀n∈g,Xa n) (fk:Int):fm gs fk=some (Wc (Gc gs fk gs.length)):=by
 unfold fm;have hl:da (ei gs fk) (([]:List Int),0)=some (.inl (Wc (Gc gs fk gs.length))):=by
  refine Rc (λk=>(Wc (Gc gs fk k),(k:Int))) gs.length _ (λk hk=>?_) (by grind[ei]) rfl;have hlen:=Tr hw fk k;have b:=hw _ (Qaa hk);have d:=hN _ (Qaa hk);have m:=b.le;have h2:da (di gs fk (k:Int)) (Wc (Gc gs fk k),0)=some (.inl (Wc (Gc gs fk k++bl gs[k] fk gs[k].length))):=by
   refine Rc (λi=>(Wc (Gc gs fk k++bl gs[k] fk i),(i:Int))) gs[k].length _ (λi hi=>?_) ?_ (by simp[bl])
   .have p:=xw gs[k] fk i;have c:=λv (hv:Hy gs[k] i=some v)=>iX d b hi hv;unfold di;simp only;rw[Ca hk,Kaa];simp only[bl,cutAt];generalize gs[k]=e at b d m hi p c⊢;rw[if_pos (by omega),yy b hi,Kaa,ya (by omega)];have hd:=qe (Gc gs fk k++bl e fk i);have j:(Wc (Gc gs fk k++bl e fk i)).length<=1099511627776-10:=by
     grind
    rw[←Oab];generalize Gc gs fk k++bl e fk i=a at hd j⊢;cases lz (Aa e i).Op
    .simp[wL]
    simp only[jab,if_false,if_true]
    cases hv:Hy e i with
    |none=>simp[wL]
    |some v=>
     have o:=c v hv;unfold Xa at o;rw[show wL (some v)=(⟨7,v.1⟩,v.2,true)from rfl,if_pos rfl];dsimp only;by_cases f:v.1=fk
     .by_cases q:v.2.Op=6
      .simp_all
      .have hl1:=pB (n:=v.2.N) (l:=Wc a);rw[if_pos f,if_pos ⟨f,q⟩,Kaa,if_neg (by simp_all),cu hd.1 (by omega),Kaa];by_cases hm:v.2.N<9223372036854775807
       .rw[wid (n:=v.2.N+1) (by omega) (by omega),if_pos (by omega),if_pos hm,cu (Zx hd.1) (by omega),pJ];rfl
       .have h:v.2.N=9223372036854775807:=by omega
        have hw:ca .i64 (v.2.N+1) = -9223372036854775808:=by rw[h];rfl
        simp_all[pJ]
     simp_all
   simp_all[di,Ca]
  unfold ei;simp only[Gc,Maa hk];rw[if_pos (by omega),h2,Kaa,ya (by omega)]
 simp_all
def fI(lo:Int):Nat->List Int
 |0=>[]
 |k+1=>fI lo k++[lo+k]
theorem pw(lo:Int):∀k,(fI lo k).length=k
 |0=>rfl
 |k+1=>by simp[fI,pw lo k]
theorem GJ{p:Int×Int}(h:-1152921504606846976<=p.1/\p.2<=1152921504606846976) (hs:p.2-p.1<=1099511627776):da (Md p) (([]:List Int),p.1)=some (.inl (fI p.1 (p.2-p.1+1).toNat)):=by
 refine Rc (λk=>(fI p.1 k,p.1+k)) (p.2-p.1+1).toNat _ (λk hk=>?_) ?_ (by simp[fI])
 .have:=pw p.1 k;unfold Md;simp only;rw[if_pos (by omega),wi (by grind),Kaa,wid (by omega) (by omega)]
  grind[fI]
 grind[Md]
noncomputable def vH(t:GType) (e:List GEnum) (cuts:List Int):List Int:=
 if(og t e).2<(og t e).1 then []
 else if t.Kind=1\/t.Kind=6 then fI (og t e).1 ((og t e).2-(og t e).1+1).toNat
 else Wc ([(og t e).1]++cuts.filter λc=>decide ((og t e).1<=c)&&decide (c<=(og t e).2))
theorem uC{t:GType}{e:List GEnum}(he:∀x∈e,x.Members.length<=1048576):-1000000000000000<=(og t e).1/\(og t e).2<=1000000000000000/\((t.Kind=1\/t.Kind=6)->(og t e).1=0/\(og t e).2<=1048576)/\(ja t e=false->(og t e).2<(og t e).1)/\(ja t e=true->t.Kind≠6->(og t e).1<(og t e).2):=by
 have hb:=Cn t e;unfold Mf at hb;rw[Qa,Kaa]at hb
 cases hv:ja t e with
 |false=>
  grind
 |true=>
  rw[hv]at hb;simp only[jab,if_false]at hb;by_cases a:t.Kind=1
  .grind
  by_cases h2:t.Kind=2
  .grind
  by_cases b:t.Kind=3
  .grind
  by_cases c:t.Kind=4
  .grind
  by_cases d:t.Kind=5
  .grind
  .rw[if_neg a,if_neg h2,if_neg b,if_neg c,if_neg d]at hb;have f:t.Kind=6:=by
    grind[ja]
   unfold ja at hv;rw[if_pos f]at hv;simp at hv;have hm:=he _ (Qaa (l:=e) (n:=t.Enum.toNat) (by omega));rw[Ng hv.1 hv.2,Kaa,wid (by omega) (by omega)]at hb
   grind
theorem Jv{t:GType}{e:List GEnum}(he:∀x∈e,x.Members.length<=1048576) {cuts:List Int}(hc:cuts.length<=1099511627):lf t e cuts=some (vH t e cuts):=by
 obtain⟨b1,b2,d,b4,f⟩:=uC (t:=t) he;unfold lf vH;rw[Ha,Kaa,oi,Kaa]
 cases hv:ja t e with
 |false=>simp_all
 |true=>
  rw[if_neg (by simp)];have hk:(if¬t.Kind=1 then some (t.Kind==6)else some true)=some (decide (t.Kind=1\/t.Kind=6)):=by
   grind
  rw[hk,Kaa];by_cases a:t.Kind=1\/t.Kind=6
  .obtain⟨q1,q2⟩:=d a;rw[if_pos (by simp_all),GJ ⟨by omega,by omega⟩ (by omega),Kaa,if_pos a];by_cases b:(og t e).2<(og t e).1
   .rw[if_pos b,show((og t e).2-(og t e).1+1).toNat=0 by omega];rfl
   grind
  .have b:=f hv (λh=>a (.inr h));rw[if_neg (by simp_all),if_neg (by omega),if_neg a];have hl:da (Nd cuts (og t e)) ([(og t e).1],0)=some (.inl ([(og t e).1]++cuts.filter λc=>decide ((og t e).1<=c)&&decide (c<=(og t e).2))):=by
    refine Rc (λi=>([(og t e).1]++(cuts.take i).filter (λc=>decide ((og t e).1<=c)&&decide (c<=(og t e).2)),(i:Int))) cuts.length _ (λi hi=>?_) (by grind[Nd]) (by simp);have:=Iw (l:=cuts) (p:=λc=>decide ((og t e).1<=c)&&decide (c<=(og t e).2)) (i:=i);unfold Nd;simp only;rw[if_pos (by omega),Ca hi,Kaa,ya (by omega),Tu hi];generalize cuts[i]=c;by_cases g:(og t e).1<=c
    .by_cases j:c<=(og t e).2
     .rw[if_pos g,Kaa,decide_eq_true j,if_pos rfl,wi (by grind)];grind
     grind
    grind
   have:=Pab (λc=>decide ((og t e).1<=c)&&decide (c<=(og t e).2)) cuts;rw[hl,Kaa];simp only[gb,Ra];rw[if_pos (by grind),Kaa,if_pos (by simp;omega),Kaa,Dr]
theorem gw{t:GType}{e:List GEnum}(he:∀x∈e,x.Members.length<=1048576) {cuts:List Int}(hc:cuts.length<=1099511627):tf t e cuts=some (vH t e cuts):=by
 obtain⟨b1,b2,f,b4,b5⟩:=uC (t:=t) he;unfold tf vH;rw[Cn,Kaa];by_cases b:(og t e).2<(og t e).1
 .simp_all
 rw[if_neg b,if_neg b];have hk:(if¬t.Kind=1 then some (t.Kind==6)else some true)=some (decide (t.Kind=1\/t.Kind=6)):=by
  grind
 rw[hk,Kaa];by_cases a:t.Kind=1\/t.Kind=6
 .obtain⟨q1,q2⟩:=f a;have hr:da (Rj (og t e)) (([]:List Int),(og t e).1)=some (.inl (fI (og t e).1 ((og t e).2-(og t e).1+1).toNat)):=GJ ⟨by omega,by omega⟩ (by omega)
  simp_all
 .rw[if_neg (by simp_all),if_neg a];have hl:da (Pd cuts (og t e)) ([(og t e).1],0)=some (.inl (Wc ([(og t e).1]++cuts.filter λc=>decide ((og t e).1<=c)&&decide (c<=(og t e).2)))):=by
   refine Rc (λi=>(Wc ([(og t e).1]++(cuts.take i).filter (λc=>decide ((og t e).1<=c)&&decide (c<=(og t e).2))),(i:Int))) cuts.length _ (λi hi=>?_) (by grind[Pd]) (by simp[Wc,xk]);have h1:=Iw (l:=cuts) (p:=λc=>decide ((og t e).1<=c)&&decide (c<=(og t e).2)) (i:=i);have h2:=qe ([(og t e).1]++(cuts.take i).filter (λc=>decide ((og t e).1<=c)&&decide (c<=(og t e).2)));have h:=h2.2.1;rw[uab,Hab]at h;unfold Pd;simp only;rw[if_pos (by omega),Ca hi,Kaa,ya (by omega),Tu hi,←Oab];generalize cuts[i]=c;by_cases d:(og t e).1<=c
   .by_cases g:c<=(og t e).2
    .rw[if_pos d,Kaa,decide_eq_true g,if_pos rfl,Kaa,cu h2.1 (by omega),decide_eq_true d,if_pos (show(true&&true)=true from rfl),UF];rfl
    grind
   grind
  simp_all
def Jc(g:List (List Int)):Nat->Int
 |0=>1
 |k+1=>match g[k]? with|some l=>if Jc g k<=4096 then Jc g k*(l.length:Int)else Jc g k|none=>Jc g k
theorem bE{g:List (List Int)}(hl:∀l∈g,0<l.length/\l.length<=1099511627776):∀k,1<=Jc g k/\Jc g k<=4503599627370496
 |0=>by simp[Jc]
 |k+1=>by
  have b:=bE hl k;unfold Jc;split
  .rename_i l h;have:=hl l (qab h);split
   .rename_i a;constructor
    .have:(1:Int)*1<=Jc g k*(l.length:Int):=kad b.1 (by omega) (by omega) (by omega);omega
    .have:Jc g k*(l.length:Int)<=4096*1099511627776:=kad a (by omega) (by omega) (by omega);omega
   omega
  omega
def Nx(g:List (List Int)):Int:=if(g.any λl=>decide (l.length=0))=true then 0 else min (Jc g g.length) 4097
theorem any_zero{g:List (List Int)}(h:(g.any λl=>decide (l.length=0))=false) {l:List Int}(hl:l∈g):0<l.length:=by
 grind
theorem oI{g:List (List Int)}(hg:g.length<=1048576) (hl:∀l∈g,l.length<=1099511627776):Rr g=some (Nx g):=by
 unfold Rr Nx;have key:∀k,k<=g.length->(∀j (n:j<k) (b:j<g.length),g[j].length≠0)->Jc g k<=4503599627370496/\1<=Jc g k:=by
  intro k hk e
  induction k with
  |zero=>simp[Jc]
  |succ k f=>
   have f:=f (by omega) λj n b=>e j (by omega) b;have c:k<g.length:=by omega
   have m:=hl _ (Qaa c);have h2:=e k (by omega) c;unfold Jc;rw[Maa c];dsimp only;split
   .rename_i a;constructor
    .have:Jc g k*(g[k].length:Int)<=4096*1099511627776:=kad a (by omega) (by omega) (by omega);omega
    .have:(1:Int)*1<=Jc g k*(g[k].length:Int):=kad f.2 (by omega) (by omega) (by omega);omega
   omega
 have m:da (Xm g) (1,0)=some (jc (Jc g g.length) (ff (λi=>if(g[i]?.any λl=>decide (l.length=0))=true then some 0 else none) g.length)):=by
  refine bc (λk=>(Jc g k,(k:Int))) _ _ _ (λk hk hf=>?_) (λ_=>by grind[Xm]) rfl;obtain⟨p1,p2⟩:=key k (by omega) λj n b e=>by
   grind
  have hlk:=hl _ (Qaa hk);unfold Xm;simp only[Jc,Maa hk,Yab,decide_eq_true_eq];rw[if_pos (by omega),Ca hk,Kaa,ya (by omega)];by_cases h:g[k].length=0
  .rw[if_pos (by omega),if_pos h];rfl
  .rw[if_neg (by omega),if_neg h];by_cases a:Jc g k<=4096
   .have:Jc g k*(g[k].length:Int)<=4096*1099511627776:=kad a (by omega) (by omega) (by omega);have:(0:Int)<=Jc g k*(g[k].length:Int):=Pae (by omega) (by omega);rw[if_pos a,if_pos a,wid (by omega) (by omega)];rfl
   .rw[if_neg a,if_neg a];rfl
 rw[m,←pn (l:=g) (q:=λl=>decide (l.length=0)) (g:=λ_=>(0:Int)),Kaa]
 cases hf:ff (λi=>if(g[i]?.any λl=>decide (l.length=0))=true then some (0:Int)else none) g.length with
 |none=>rfl
 |some v=>
  obtain⟨j,-,d,-⟩:=Oa.1 hf;split at d
  .injection d with d;subst d;rfl
  simp_all
theorem SI{g:List (List Int)}(hg:g.length<=1048576) (hl:∀l∈g,l.length<=1099511627776):Hs g=some (Nx g):=by
 unfold Hs Nx;have p:da (Hn g) 0=some (jc () (ff (λi=>if(g[i]?.any λl=>decide (l.length=0))=true then some 0 else none) g.length)):=by
  refine bc (λk=>(k:Int)) _ _ _ (λk hk hf=>?_) (λ_=>by grind[Hn]) rfl;unfold Hn;simp only[Maa hk,Yab,decide_eq_true_eq];rw[if_pos (by omega),Ca hk,Kaa,ya (by omega)];by_cases m:g[k].length=0
  .rw[if_pos (by omega),if_pos m];rfl
  .rw[if_neg (by omega),if_neg m];rfl
 have a:=pn (l:=g) (q:=λl=>decide (l.length=0)) (g:=λ_=>(0:Int));rw[p,←a,Kaa]
 cases hf:ff (λi=>if(g[i]?.any λl=>decide (l.length=0))=true then some (0:Int)else none) g.length with
 |some v=>
  obtain⟨j,-,f,-⟩:=Oa.1 hf;split at f
  .injection f with f;subst f;rfl
  simp_all
 |none=>
  rw[hf]at a;have o:∀l∈g,0<l.length/\l.length<=1099511627776:=λl e=>⟨any_zero a.symm e,hl l e⟩;have hb:=bE o;have stay:∀n k,¬Jc g k<=4096->Jc g (k+n)=Jc g k:=by
   intro n k hk
   induction n with
   |zero=>rfl
   |succ n s=>
    grind[Jc]
  have h2:da (ai g) (1,0)=some (.inl (Jc g g.length)):=by
   have b:∀k,k<g.length->Jc g k<=4096->ai g (Jc g k,(k:Int))=some (.go (Jc g (k+1),((k+1:Nat):Int))):=by
    intro k hk d;have hlk:=o _ (Qaa hk);have:=hb k;have h3:Jc g k*(g[k].length:Int)<=4096*1099511627776:=kad d (by omega) (by omega) (by omega);have h4:(0:Int)<=Jc g k*(g[k].length:Int):=Pae (by omega) (by omega);unfold ai;simp only[Jc,Maa hk];rw[if_pos (by omega),Kaa,if_pos (by simp_all),Ca hk,Kaa,ya (by omega),wid (by omega) (by omega),if_pos d]
   by_cases c:∀k,k<g.length->Jc g k<=4096
   .exact Rc (λk=>(Jc g k,(k:Int))) g.length _ (λk hk=>b k hk (c k hk)) (by grind[ai]) rfl
   .obtain⟨k,k1,t,k3⟩:∃k,k<g.length/\¬Jc g k<=4096/\∀j,j<k->Jc g j<=4096:=by
     have:∀n,(∃k,k<n/\¬Jc g k<=4096)->∃k,k<n/\¬Jc g k<=4096/\∀j,j<k->Jc g j<=4096:=by
      intro n
      induction n with
      |zero=>omega
      |succ n s=>
       rintro⟨k,h,hk⟩;by_cases he:∃k,k<n/\¬Jc g k<=4096
       all_goals grind
     refine this _ ?_
     simp_all
    have he:Jc g g.length=Jc g k:=by
     have:=stay (g.length-k) k t
     grind
    rw[he];refine Rc (λj=>(Jc g j,(j:Int))) k _ (λj r=>b j (by omega) (k3 j r)) ?_ rfl
    simp_all[ai]
  grind[jc]
def rp(gs:List (List GNode)) (i:Int):Bool:=gs.any λg=>g.any λn=>decide (n.Op=7/\n.N=i)
theorem nV{l:List GNode}(hl:l.length<=1048576) (i:Int):Ac l (GNode.mk 7 i)=some (l.any λn=>decide (n.Op=7/\n.N=i)):=by
 have h:=Kp (l:=l) (p:=λx=>some (decide (7=x.Op/\i=x.N))) (λn=>decide (n.Op=7/\n.N=i)) (λx _=>by grind) (by omega) (o:=da (Bc l (GNode.mk 7 i)) 0) (by
  unfold Bc;simp)
 exact h
theorem nz{gs:List (List GNode)}(hg:gs.length<=1048576) (hl:∀g∈gs,g.length<=1048576) (i:Int):Qi gs i=some (rp gs i):=by
 unfold Qi rp;have b:da (Rf gs i) 0=some (jc () (ff (λk=>if(gs[k]?.any λg=>g.any λn=>decide (n.Op=7/\n.N=i))=true then some true else none) gs.length)):=by
  refine bc (λk=>(k:Int)) _ _ _ (λk hk _=>?_) (λ_=>by grind[Rf]) rfl;unfold Rf;rw[if_pos (by omega),Ca hk,Kaa,nV (hl _ (Qaa hk)),Kaa,ya (by omega),Maa hk,Yab];cases gs[k].any λn=>decide (n.Op=7/\n.N=i)<;>rfl
 rw[b,←pn (g:=λ_=>true),Kaa]
 cases hf:ff (λk=>if(gs[k]?.any λg=>g.any λn=>decide (n.Op=7/\n.N=i))=true then some true else none) gs.length with
 |none=>rfl
 |some v=>
  obtain⟨j,-,a,-⟩:=Oa.1 hf;split at a
  .injection a with a;subst a;rfl
  simp_all
theorem qH{gs:List (List GNode)}(hg:gs.length<=1048576) (hl:∀g∈gs,g.length<=1048576) (i:Int):Kq gs i=some (rp gs i):=by
 unfold Kq rp;have c:da (km gs i) 0=some (jc () (ff (λk=>if(gs[k]?.any λg=>g.any λn=>decide (n.Op=7/\n.N=i))=true then some true else none) gs.length)):=by
  refine bc (λk=>(k:Int)) _ _ _ (λk hk _=>?_) (λ_=>by grind[km]) rfl;have hlk:=hl _ (Qaa hk);have h2:da (im gs i (k:Int)) 0=some (jc () (ff (λj=>if(gs[k][j]?.any λn=>decide (n.Op=7/\n.N=i))=true then some (Ex.ret true)else none) gs[k].length)):=by
   refine bc (λj=>(j:Int)) _ _ _ (λj b _=>?_) (λ_=>by simp_all[im,Ca]) rfl;unfold im;rw[Ca hk,Kaa,if_pos (by omega),Ca b,Kaa,ya (by omega),Maa b,Yab]
   grind[sG]
  unfold km;rw[if_pos (by omega),h2,Kaa,ya (by omega),Maa hk,Yab,←pn (g:=λ_=>(Ex.ret true:Ex Int Unit Bool))]
  cases hf:ff (λj=>if(gs[k][j]?.any λn=>decide (n.Op=7/\n.N=i))=true then some (Ex.ret true:Ex Int Unit Bool)else none) gs[k].length with
  |none=>rfl
  |some v=>
   obtain⟨j,-,a,-⟩:=Oa.1 hf;split at a
   .injection a with a;subst a;rfl
   simp_all
 rw[c,←pn (g:=λ_=>true),Kaa]
 cases hf:ff (λk=>if(gs[k]?.any λg=>g.any λn=>decide (n.Op=7/\n.N=i))=true then some true else none) gs.length with
 |none=>rfl
 |some v=>
  obtain⟨j,-,a,-⟩:=Oa.1 hf;split at a
  .injection a with a;subst a;rfl
  simp_all
theorem IH{l:List Int}(hl:l.length<=1099511627776):iw l l=some true:=by
 unfold iw;rw[if_neg (by simp)];have:da (Nq l l) 0=some (.inl ()):=Rc (λk=>(k:Int)) l.length () (λk hk=>by
  unfold Nq;rw[if_pos (by omega),Kaa,if_pos (by simp_all),Ca hk,Kaa,Kaa,if_neg (by simp),ya (by omega)]) (by grind[Nq]) rfl
 simp_all
def Yk:List (List Int)->List Int->List Int×Bool
 |l::g,a::r=>if(Yk g r).2=true then(a::(Yk g r).1,true)else if a+1<(l.length:Int)then((a+1)::(Yk g r).1,true)else(0::(Yk g r).1,false)
 |_,_=>([],false)
def Fb:List (List Int)->List Int->Prop
 |l::g,a::r=>(0<=a/\a<(l.length:Int)/\l.length<=1099511627776)/\Fb g r
 |[],[]=>True
 |_,_=>False
theorem Fb.len:∀{g:List (List Int)}{a:List Int},Fb g a->a.length=g.length
 |l::g,x::r,h=>by simp[Fb.len h.2]
 |[],[],_=>rfl
theorem SL:∀{g:List (List Int)}{a:List Int},Fb g a->(Yk g a).1.length=g.length
 |l::g,x::r,h=>by
  have:=SL h.2;unfold Yk;split<;>(try split)<;>simp[this]
 |[],[],_=>rfl
theorem XJ:∀{g:List (List Int)}{a:List Int},Fb g a->Fb g (Yk g a).1
 |l::g,x::r,h=>by
  have:=XJ h.2;have:=h.1;unfold Yk;split
  .exact⟨h.1,by omega⟩
  .split
   .exact⟨by omega,by omega⟩
   .exact⟨by omega,by omega⟩
 |[],[],_=>trivial
theorem TL{c:List (List Int)}{step:List Int×Int->Option (Ex (List Int×Int) (List Int) (List Int×Bool))}
 (n:∀a i,step (a,i)=if 0<=i then(idx a i).bind λf=>(put a i (ca .i64 (f+1))).bind λb=>(idx b i).bind λj=>(idx c i).bind λk=>if j<(k.length:Int)then some (.ret (b,true))else(put b i 0).bind λm=>some (.go (m,ca .i64 (i-1)))else some (.brk a))
 (hl:c.length<=1048576) :
 ∀{g:List (List Int)} {a:List Int},Fb g a->∀{pg:List (List Int)} {pa:List Int},pa.length=pg.length->c=pg++g->
  da step (pa++a,((pa.length+a.length:Nat):Int)-1)=if(Yk g a).2=true then some (.inr (pa++(Yk g a).1,true))else da step (pa++(Yk g a).1,(pa.length:Int)-1)
 |l::g,x::r,h,pg,pa,v,u=>by
  have hgl:pg.length+g.length+1=c.length:=by grind
  have d:=SL h.2;have w:=TL n hl h.2 (pg:=pg++[l]) (pa:=pa++[x]) (by grind) (by grind);have o:pa++x::r=(pa++[x])++r:=by simp
  have p:pa.length+(x::r).length=(pa++[x]).length+r.length:=by grind
  rw[o,p,w];have hx:=h.1
  conv=>rhs;unfold Yk
  by_cases hb:(Yk g r).2=true
  .grind
  rw[if_neg hb,if_neg hb];have s:(((pa++[x]).length:Nat):Int)-1=((pa.length:Nat):Int):=by simp
  have t:pa++[x]++(Yk g r).1=pa++x::(Yk g r).1:=by simp
  rw[s,t];generalize (Yk g r).1=q at d⊢;have hi:pa.length<(pa++x::q).length:=by simp
  have e:c[pa.length]?=some l:=by grind
  have st:step (pa++x::q,(pa.length:Int))=if x+1<(l.length:Int)then some (.ret (pa++(x+1)::q,true))else some (.go (pa++0::q,(pa.length:Int)-1)):=by
   rw[n,if_pos (by omega),Ca hi,Kaa,yv hi,Kaa,List.getElem_append_right (dab _),Ca (by simp),Kaa,RM,e,Kaa];simp only[Cac,List.getElem_cons_zero,cae]
   grind[wid,yv]
  by_cases hc:x+1<(l.length:Int)
  .rw[if_pos hc]at st;rw[nr st,if_pos hc,if_pos rfl]
  .rw[if_neg hc]at st;rw[Ul st,if_neg hc,if_neg (by simp)]
 |[],[],_,pg,pa,v,u=>by
  grind[Yk]
theorem P4{b:List (List Int)}{step:List Int×Int->Option (Ex (List Int×Int) (List Int) (List Int×Bool))}
 (k:∀a i,step (a,i)=if 0<=i then(idx a i).bind λe=>(put a i (ca .i64 (e+1))).bind λc=>(idx c i).bind λf=>(idx b i).bind λg=>if f<(g.length:Int)then some (.ret (c,true))else(put c i 0).bind λj=>some (.go (j,ca .i64 (i-1)))else some (.brk a))
 (hl:b.length<=1048576) {a:List Int} (ha:Fb b a) :
 ((da step (a,ca .i64 ((a.length:Int)-1))).bind λy=>match y with|.inr v=>some v|.inl d=>some (d,false))=some (Yk b a):=by
 have h:=TL k hl ha (pg:=[]) (pa:=[]) rfl rfl;have hlen:=ha.len;simp only[List.nil_append,Xab,eac]at h;rw[wid (by omega) (by omega),h];by_cases hb:(Yk b a).2=true
 .grind
 .have st:step ((Yk b a).1,((0:Nat):Int)-1)=some (.brk (Yk b a).1):=by simp_all
  rw[if_neg hb,Ue st,Kaa]
  grind
def bf:List (List Int)->Nat
 |[]=>1
 |l::g=>l.length*bf g
def rk:List (List Int)->List Int->Nat
 |l::g,a::r=>a.toNat*bf g+rk g r
 |_,_=>0
theorem lL{l a:List Int}{g:List (List Int)}{x:Int}:rk (l::g) (x::a)=x.toNat*bf g+rk g a:=rfl
theorem FF{l:List Int}{g:List (List Int)}:bf (l::g)=l.length*bf g:=rfl
theorem zH:∀{g:List (List Int)}{a:List Int},Fb g a->rk g a<bf g
 |l::g,x::r,h=>by
  have ih:=zH h.2;have hx:=h.1;have:(x.toNat+1)*bf g<=l.length*bf g:=rab _ (by omega)
  grind[lL,FF]
 |[],[],_=>by simp[rk,bf]
theorem qP:∀{g:List (List Int)}{a b:List Int},Fb g a->Fb g b->rk g a=rk g b->a=b
 |l::g,x::r,y::q,h,k,e=>by
  have h1:=zH h.2;have k1:=zH k.2;have hx:=h.1;have ky:=k.1;unfold rk at e;have d:x.toNat=y.toNat:=by
   rcases Nat.lt_trichotomy x.toNat y.toNat with c|c|c
   .have:(x.toNat+1)*bf g<=y.toNat*bf g:=rab _ c
    grind
   .exact c
   .have:(y.toNat+1)*bf g<=x.toNat*bf g:=rab _ c
    grind
  rw[d]at e;rw[show x=y by omega,qP h.2 k.2 (by omega)]
 |[],[],[],_,_,_=>rfl
theorem nL:∀{g:List (List Int)}{a:List Int},Fb g a->((Yk g a).2=true->rk g (Yk g a).1=rk g a+1)/\((Yk g a).2=false->rk g a+1=bf g/\rk g (Yk g a).1=0)
 |l::g,x::r,h=>by
  have b:=nL h.2;have hx:=h.1;unfold Yk;by_cases hb:(Yk g r).2=true
  .grind[rk]
  .have:=b.2 (Iac.2 hb);rw[if_neg hb];by_cases hc:x+1<(l.length:Int)
   .rw[if_pos hc];refine⟨λ_=>?_,λh=>by cases h⟩;unfold rk;rw[show(x+1).toNat=x.toNat+1 by omega,Jad];omega
   .rw[if_neg hc];refine⟨λh=>(by cases h),λ_=>?_⟩;have:l.length=x.toNat+1:=by omega
    rw[lL,lL,FF,this,Jad,Int.toNat_zero,Nat.zero_mul];omega
 |[],[],_=>by grind[Yk,rk,bf]
theorem ZT:∀{g:List (List Int)},(∀l∈g,0<l.length/\l.length<=1099511627776)->Fb g (Oaa g.length 0)/\rk g (Oaa g.length 0)=0
 |[],_=>⟨trivial,rfl⟩
 |l::g,h=>by
  have a:=ZT (g:=g) λx hx=>h x (by grind);have:=h l (by simp);rw[sab,cac];refine⟨⟨by omega,a.1⟩,?_⟩
  grind[rk]
theorem jO{σ β ρ:Type}{g:List (List Int)}{step:σ×List Int×Bool->Option (Ex (σ×List Int×Bool) β ρ)}(I:Nat->σ->Prop) (Done:σ->List Int->Prop) (out:σ->β)
 (a:∀s c,Fb g c->I (rk g c) s->∃s',step (s,c,true)=some (.go (s',Yk g c))/\I (rk g c+1) s'/\Done s' c/\∀d,Done s d->Done s' d)
 (f:∀s c,step (s,c,false)=some (.brk (out s)))
 {s0:σ} {h:List Int} (k:Fb g h) (hr:rk g h=0) (hI:I 0 s0) :
 ∃s,da step (s0,h,true)=some (.inl (out s))/\I (bf g) s/\∀c,Fb g c->Done s c:=by
 have key:∀(n:Nat) (s:σ) (c:List Int),bf g-rk g c<=n->Fb g c->I (rk g c) s->(∀d,Fb g d->rk g d<rk g c->Done s d)->∃s',da step (s,c,true)=some (.inl (out s'))/\I (bf g) s'/\∀d,Fb g d->Done s' d:=by
  intro n
  induction n with
  |zero=>intro s c hn hc;have:=zH hc;omega
  |succ n ih=>
   intro s c hn hc hi hd;obtain⟨s',l,h2,h3,h4⟩:=a s c hc hi;have j:=nL hc;have ok:=XJ hc;have all:∀d,Fb g d->rk g d<rk g c+1->Done s' d:=λd b i=>by
    grind[qP]
   rw[Ul l]
   cases hb:(Yk g c).2 with
   |true=>
    grind
   |false=>
    have e:=(j.2 hb).1;rw[show Yk g c=((Yk g c).1,false) by grind,Ue (f s' _)];exact⟨s',rfl,by simp_all,λd b=>all d b (by simp_all[zH])⟩
 exact key _ s0 h (dab _) k (by simp_all) λd _ i=>by omega
theorem gO(g:List (List Int)) (l:List Int):bf (g++[l])=bf g*l.length:=by
 induction g with
 |nil=>simp[bf]
 |cons a g ih=>grind[bf]
theorem YG{g:List (List Int)}(hl:∀l∈g,0<l.length):∀k,k<=g.length->Jc g k=(bf (g.take k):Int)\/4096<Jc g k
 |0,_=>.inl (by simp[Jc,bf])
 |k+1,hk=>by
  have ih:=YG hl k (by omega);have a:k<g.length:=by omega
  have:=hl _ (Qaa a);unfold Jc;rw[Maa a];dsimp only;rw[tab,Maa a,Vab,gO]
  grind
theorem bU{g:List (List Int)}(hl:∀l∈g,0<l.length) (h:Nx g<=4096):bf g<=4096:=by
 have a:(g.any λl=>decide (l.length=0))=false:=by
  grind
 unfold Nx at h;rw[a,if_neg (by simp)]at h;rcases YG hl g.length (dab _)with e|e
 all_goals grind
theorem Yw{e:List GNode}(h:Wst e) {i:Nat}(hi:i<e.length) {env:GEnv}:we ⟨e,(Bg e e.length).1,env⟩ (i:Int)=some (Yy e i):=by
 have hle:=h.le;obtain⟨a1,a2,a3⟩:=h.ar hi;have ha3:Oc e i<=12:=by have:=Sp (e:=e) (i:=i) λj hj=>h.err j (by omega);omega
 have d:Ab (Aa e i).Op=(Oc e i:Int):=by grind[Oc]
 unfold we;dsimp only;rw[Ca hi,Kaa,Qe hi,Zi,Kaa,d,dw (by omega) (by omega),Kaa,Gab,wid (n:=(i:Int)-1) (by omega) (by omega),wid (n:=(Oc e i:Int)-1) (by omega) (by omega),lN h hi λa b c=>by grind[Eh]];rfl
theorem aA(e:List GNode) (i:Nat):Oc e i<=3:=by
 grind[Oc,Ab]
theorem BQ(e:List GNode) (i:Nat):(Yy e i).length=Oc e i:=by simp[Yy]
theorem rF{e:List GNode}{i t:Nat}(h:t<Oc e i):idx (Yy e i) (t:Int)=some ((Sk e i t:Nat):Int):=by
 grind[Yy,Ca]
theorem aP{α:Type}{f:Nat->α}{k t:Nat}(h:t<k):((Zaa k).map f).take (t+1)=((Zaa k).map f).take t++[f t]:=by
 grind[tab]
theorem B5{op:Int}{α:Type}{k:Bool->Option α}:(Laa (α:=Bool) (if op=23 then some true else if op=24 then some true else some (op==26)) k)=k (decide (op=23\/op=24\/op=26)):=by
 grind
def Pt(p:GValue×Int):GValue×Int:=if¬p.2=0 then(⟨0,0,0⟩,p.2)else if p.1.Kind=1/\ic p.1 then p else(⟨0,0,0⟩,8)
theorem boolO{v:GValue}{α:Type}{k:Bool->Option α}:(Laa (α:=Bool) (if v.Kind=1 then(Xb v).bind λa=>some (!a)else some true) k)=k (decide (¬(v.Kind=1/\ic v))):=by
 grind[Ds,Yb]
theorem i7{a:GEval_evaluator->Int->Option (GValue×Int)}{b c}{x:GEval_evaluator}{j:Int}{p:GValue×Int}(h:a x j=some p):Dc a b c x j=some (Pt p):=by
 unfold Dc Pt;rw[h,Kaa];simp only[boolO]
 grind
def DG(op N:Int) (a b c:GValue×Int):GValue×Int:=
 if¬N=0 then(⟨0,0,0⟩,2)else
 if¬(Pt a).2=0 then(⟨0,0,0⟩,(Pt a).2)else
 if op=26 then(if(Pt a).1.N=1 then b else c)else
 if(op==23)=((Pt a).1.N==0)then((Pt a).1,0)else Pt b
theorem wV{op N:Int}{c a b:GValue×Int}(h1:a.2=0->ic a.1) (h2:b.2=0->ic b.1):(DG op N c a b).2=0->ic (DG op N c a b).1:=by
 grind[DG,Pt]
theorem JT{l:List GValue}(hl:l.length<=1048576):Wi l=some (l.all Ds):=by
 have a:da (Uf l) 0=some (jc () (ff (λi=>if(l[i]?.any λv=>!Ds v)=true then some false else none) l.length)):=
  bc (λi=>(i:Int)) _ l.length () (λi hi _=>by
   unfold Uf;rw[if_pos (by omega),Ca hi,Maa hi]
   grind[sG,Yb,ya]) (λ_=>by grind[Uf])
 unfold Wi;rw[a];by_cases h:l.all Ds=true
 .have hn:∀i,i<l.length->(l[i]?.any λv=>!Ds v)=false:=by
   simp_all
  rw[Hb.2 (λi hi=>by simp_all),h];rfl
 .have hb:l.all Ds=false:=by simp_all
  obtain⟨x,hx,hx2⟩:∃x∈l,Ds x=false:=by
   simp_all
  obtain⟨k,hk,rfl⟩:=List.getElem_of_mem hx;have ne:ff (λi=>if(l[i]?.any λv=>!Ds v)=true then some false else none) l.length=some false:=by
   cases hf:ff (λi=>if(l[i]?.any λv=>!Ds v)=true then some false else none) l.length with
   |none=>
    grind[Hb]
   |some w=>
    obtain⟨i,_,h2,_⟩:=Oa.1 hf
    simp_all
  rw[ne,hb];rfl
theorem AD{n:GNode}{args:List GValue}{env:GEnv}(ha:args.length<=3) (h:1<=n.Op/\n.Op<=39->Ab n.Op=args.length->ZX n=true->Vp n env=true->(∀a∈args,ic a)->Ns (Pc n args env)):Ns (ub n args env):=by
 unfold ub;rw[GC,Zi,Oz,JT (l:=args) (by omega)];simp only[Kaa];have err:∀{c:Int},c≠0->Ns (some (⟨0,0,0⟩,c)):=λh=>⟨_,rfl,λh2=>absurd h2 h⟩;by_cases i:1<=n.Op/\n.Op<=39
 case neg=>grind
 rw[decide_eq_true i];simp only[Iab];by_cases h2:ZX n=true
 case neg=>simp_all
 rw[h2];simp only[if_true];by_cases m:Ab n.Op=args.length
 case neg=>
  grind
 have:((args.length:Int) !=Ab n.Op)=false:=by grind
 rw[this];simp only[Kaa,Saa,if_false];by_cases j:Vp n env=true
 case neg=>simp_all
 rw[j];simp only[jab,if_false];by_cases k:args.all Ds=true
 case neg=>grind
 rw[k];simp only[if_true];have o:∀a∈args,ic a:=λa ha=>of_decide_eq_true (List.all_eq_true.1 k a ha);have hc:=h i m h2 j o;have e1:(Laa (α:=Bool) ((qa n args env).bind λf=>some (!f)) λe=>if e=true then some ((⟨0,0,0⟩:GValue),(8:Int))else(za n args env).bind λd=>if¬d.2=0 then some (⟨0,0,0⟩,d.2)else(Xb d.1).bind λg=>if g=false then some (⟨0,0,0⟩,3)else some (d.1,0))=Pc n args env:=by
  unfold Pc
  cases qa n args env with
  |none=>rfl
  |some b=>
   grind[Yb]
 simp_all
noncomputable def No(e:List GNode) (env:GEnv) (i:Nat):GValue×Int:=((ea (3*i+3)).1 ⟨e,(Bg e e.length).1,env⟩ i).getD (⟨0,0,0⟩,0)
noncomputable def Up(e:List GNode) (env:GEnv) (i:Nat):List GValue:=(Zaa (Oc e i)).map λt=>(No e env (Sk e i t)).1
noncomputable def IA(e:List GNode) (env:GEnv) (i:Nat) (t:Nat):Option (GValue×Int):=if¬(No e env (Sk e i t)).2=0 then some (⟨0,0,0⟩,(No e env (Sk e i t)).2)else none
noncomputable def FO(e:List GNode) (env:GEnv) (i:Nat):GValue×Int:=
 if(Aa e i).Op=23\/(Aa e i).Op=24\/(Aa e i).Op=26 then
  DG (Aa e i).Op (Aa e i).N (No e env (Sk e i 0)) (No e env (Sk e i 1)) (if(Aa e i).Op=26 then No e env (Sk e i 2)else(⟨0,0,0⟩,1))
 else match ff (IA e env i) (Oc e i)with
  |some v=>v
  |none=>(ub (Aa e i) (Up e env i) env).getD (⟨0,0,0⟩,0)
structure NodeP (e:List GNode) (env:GEnv) (i:Nat):Prop where
 p:∀n,3*i+3<=n->(ea n).1 ⟨e,(Bg e e.length).1,env⟩ i=some (No e env i)
 ok:(No e env i).2=0->ic (No e env i).1
 q:No e env i=FO e env i
theorem kN{e:List GNode}{env:GEnv}{i:Nat}(h1:∀n,3*i+3<=n->(ea n).1 ⟨e,(Bg e e.length).1,env⟩ i=some (FO e env i)) (h3:(FO e env i).2=0->ic (FO e env i).1):NodeP e env i:=by
 have:No e env i=FO e env i:=by
  simp_all[No]
 exact⟨by simp_all,by simp_all,this⟩
theorem tY{e:List GNode}{env:GEnv}(h:Wst e) {i:Nat}(hi:i<e.length) {n:Nat}(b:∀j,j<i->(ea n).1 ⟨e,(Bg e e.length).1,env⟩ j=some (No e env j)) :
 da (kd ⟨e,(Bg e e.length).1,env⟩ (Yy e i) (ea n).1) (Oaa (Oc e i) ⟨0,0,0⟩,0)=some (jc (Up e env i) (ff (IA e env i) (Oc e i))):=by
 have hl:=BQ e i;have h3:=aA e i;refine bc (step:=kd ⟨e,(Bg e e.length).1,env⟩ (Yy e i) (ea n).1) (λt=>((Up e env i).take t++Oaa (Oc e i-t) ⟨0,0,0⟩,(t:Int))) (IA e env i) (Oc e i) (Up e env i) (λt ht _=>?_) (λ_=>?_) (by simp)
 .obtain⟨c,-⟩:=Hm h hi ht;have a:(Up e env i).length=Oc e i:=by simp[Up]
  unfold kd;dsimp only;rw[if_pos (by omega),rF ht,Kaa,b _ c,Kaa];unfold IA;by_cases hc:(No e env (Sk e i t)).2=0
  .rw[if_neg (cab.2 hc),if_neg (cab.2 hc)];rw[Ca (by grind),Kaa,yv (by grind),Kaa,ya (by omega)];unfold sG;dsimp only;congr 3;rw[zad _ _ (by grind),show t-((Up e env i).take t).length=0 by grind,show Oc e i-t=(Oc e i-(t+1))+1 by omega,cac,List.set_cons_zero]
   grind[Up,aP]
  .rw[if_pos hc,if_pos hc];rfl
 .unfold kd;dsimp only;rw[if_neg (by omega),Cac];have a:(Up e env i).length=Oc e i:=by simp[Up]
  grind
theorem MK{e:List GNode}(h:Wst e) {env:GEnv}(y:∀i,i<e.length->¬((Aa e i).Op=23\/(Aa e i).Op=24\/(Aa e i).Op=26)->Ns (ub (Aa e i) (Up e env i) env)):∀i,i<e.length->NodeP e env i:=by
 intro i
 induction i using tad with
 |_ i k=>
  intro hi;have hle:=h.le;have har:=h.ar hi;have hga:=aA e i;have f:=BQ e i;by_cases b:(Aa e i).Op=23\/(Aa e i).Op=24\/(Aa e i).Op=26
  .have hk:2<=Oc e i/\((Aa e i).Op=26->Oc e i=3):=by
    unfold Oc;rcases b with h|h|h<;>rw[h]<;>decide
   have s:=(Hm h hi (j:=0) (by omega)).1;have B:=(Hm h hi (j:=1) (by omega)).1;have u:=k _ s (by omega);have l:=k _ B (by omega);have z:idx (Yy e i) 0=some ((Sk e i 0:Nat):Int):=rF (t:=0) (by omega);have A:idx (Yy e i) 1=some ((Sk e i 1:Nat):Int):=rF (t:=1) (by omega);have d:(Aa e i).Op=26->NodeP e env (Sk e i 2)/\Sk e i 2<i/\idx (Yy e i) 2=some ((Sk e i 2:Nat):Int):=λa=>by
    grind[Hm,rF]
   have hq:FO e env i=_:=if_pos b;refine kN (λn hn=>?_) (by
    rw[hq];exact wV l.ok (by
     split
     .rename_i a;exact(d a).1.ok
     omega))
   rw[hq];obtain⟨n,rfl⟩:∃m,n=m+3:=⟨n-3,by omega⟩;show Fc (ea (n+2)).1 (ea (n+2)).2.1 (ea (n+2)).2.2 _ _=_;unfold Fc;dsimp only;rw[Ca hi,Kaa,Qe hi,Yw h hi,Kaa,B5,decide_eq_true b,if_pos rfl,gJ];show pf (ea (n+1)).1 (ea (n+1)).2.1 (ea (n+1)).2.2 _ _ _=_;unfold pf DG;by_cases c:(Aa e i).N=0
   case neg=>simp_all
   rw[if_neg (cab.2 c),if_neg (cab.2 c),z,Kaa];have g:∀j,j<i->NodeP e env j->(ea (n+1)).2.2 ⟨e,(Bg e e.length).1,env⟩ (j:Int)=some (Pt (No e env j)):=λj r hb=>(show Dc (ea n).1 (ea n).2.1 (ea n).2.2 _ _=_ from i7 (hb.p n (by omega)));rw[g _ s u,Kaa];by_cases hc:(Pt (No e env (Sk e i 0))).2=0
   case neg=>simp_all
   rw[if_neg (cab.2 hc),if_neg (cab.2 hc)];by_cases a:(Aa e i).Op=26
   .obtain⟨w,c2,x⟩:=d a;rw[if_pos a,if_pos a,Kaa,if_pos a,if_pos a];by_cases o:(Pt (No e env (Sk e i 0))).1.N=1
    .rw[if_pos (by simp_all),if_pos o,A,Kaa,gJ];exact l.p (n+1) (by omega)
    .rw[if_neg (by simp_all),if_neg o,x,Kaa,gJ];exact w.p (n+1) (by omega)
   grind
  .obtain⟨q,q1,q3⟩:=y i hi b;have hff:∀v,ff (IA e env i) (Oc e i)=some v->v.2≠0:=by
    grind[IA,Oa]
   have hq:FO e env i=(match ff (IA e env i) (Oc e i)with|some v=>v|none=>q):=by
    simp_all[FO]
   refine kN (λn hn=>?_) ?_
   .rw[hq];obtain⟨n,rfl⟩:∃m,n=m+1:=⟨n-1,by omega⟩;show Fc (ea n).1 (ea n).2.1 (ea n).2.2 _ _=_;unfold Fc;dsimp only;rw[Ca hi,Kaa,Qe hi,Yw h hi,Kaa,B5,decide_eq_false b,if_neg (by simp),f,dw (by omega) (by omega),Kaa,tY h hi (λj r=>(k j r (by omega)).p n (by omega)),Kaa]
    grind[bW,oaa]
   grind
theorem XN{e:List GNode}{env:GEnv}(h:Wst e) (hb:NodeP e env (e.length-1)):ib e env=some (No e env (e.length-1))/\((No e env (e.length-1)).2=0->ic (No e env (e.length-1)).1):=by
 have hf:1000000<=Kr:=by grind[Kr]
 have hp:=h.pos;have hle:=h.le;unfold ib aj;rw[uk];simp only[Kaa];rw[vu h];have a:ca .i64 ((e.length:Int)-1)=((e.length-1:Nat):Int):=by grind[wid]
 unfold Zj;rw[a];dsimp only;rw[if_neg (by decide),hb.p _ (by omega)];exact⟨rfl,hb.ok⟩
theorem Un{n:GNode}{args:List GValue}{env:GEnv}(ha:args.length<=3):ub n args env=if 1<=n.Op/\n.Op<=39/\ZX n=true/\Ab n.Op=args.length then(if Vp n env=true then(if args.all Ds=true then Pc n args env else some (⟨0,0,0⟩,8))else some (⟨0,0,0⟩,6))else some (⟨0,0,0⟩,2):=by
 by_cases a:1<=n.Op/\n.Op<=39/\ZX n=true/\Ab n.Op=args.length
 .rw[if_pos a];unfold ub;rw[GC,Zi,Oz,JT (l:=args) (by omega),decide_eq_true ⟨a.1,a.2.1⟩,a.2.2.1];have hb:((args.length:Int) !=Ab n.Op)=false:=by simp_all
  simp only[Kaa,Bool.and_self,if_true,hb,Saa,if_false];cases Vp n env
  .rfl
  cases args.all Ds
  .rfl
  simp only[Kaa,if_true,Saa,jab,if_false];unfold Pc
  cases qa n args env with
  |none=>rfl
  |some b=>
   grind[Yb]
 .rw[if_neg a];unfold ub;rw[GC,Zi]
  grind
def qI(op a b:Int):Bool:=if op=19 then a==b else if op=20 then a !=b else if op=21 then decide (a<b)else decide (a<=b)
def trV(b:Bool):GValue×Int:=(⟨1,0,if b=true then 1 else 0⟩,0)
theorem LF{op N:Int}{a b:GValue}{env:GEnv}(hop:19<=op/\op<=22):Pc ⟨op,N⟩ [a,b] env=some (if xL a b/\(21<=op->2<=a.Kind/\a.Kind<=5)then trV (qI op a.N b.N)else(⟨0,0,0⟩,8)):=by
 have hk:(2<=a.Kind/\a.Kind<=5)↔((2<=a.Kind/\a.Kind<=4)\/a.Kind=5):=by omega
 have c:qa ⟨op,N⟩ [a,b] env=some (decide (xL a b/\(21<=op->2<=a.Kind/\a.Kind<=5))):=by
  rw[mI (by omega)];rcases(by omega:op=19\/op=20\/op=21\/op=22)with rfl|rfl|rfl|rfl<;>simp only[Ma,Taa,if_true,if_false,Kaa,Rl,Gg,aF,Waa,Saa,hk]
  all_goals grind
 have hc:za ⟨op,N⟩ [a,b] env=some (⟨1,0,if qI op a.N b.N=true then 1 else 0⟩,0):=by
  rw[MA (by omega)];rcases(by omega:op=19\/op=20\/op=21\/op=22)with rfl|rfl|rfl|rfl<;>simp only[Mb,qI,Taa,Waa,if_true,if_false,Saa,Kaa,Xi]
 by_cases h:xL a b/\(21<=op->2<=a.Kind/\a.Kind<=5)
 .rw[decide_eq_true h]at c;rw[Mv c hc,if_pos h,if_pos rfl,JG];rfl
 simp_all[JF,if_neg]
theorem oM{N:Int}{a:GValue}{env:GEnv}:Pc ⟨25,N⟩ [a] env=some (if a.Kind=1 then trV (a.N==0)else(⟨0,0,0⟩,8)):=by
 by_cases hn:a.Kind=1
 .rw[Mv (v:=⟨1,0,if(a.N==0)=true then 1 else 0⟩) (e:=0) (by grind[qa,qb,He]) (by simp only[za,Taa,if_false,Kaa,Waa,Saa,He,ln,Xi,sab,Xab,if_true,eac,bae]),if_pos hn,if_pos rfl,JG];rfl
 simp_all[qa,qb,JF,He]
theorem yC{op N:Int}{env:GEnv}(h:1<=op/\op<=5):Pc ⟨op,N⟩ [] env=some (zt ⟨op,0,N⟩):=by
 rw[Mv (v:=⟨op,0,N⟩) (e:=0) (by rcases(by omega:op=1\/op=2\/op=3\/op=4\/op=5)with rfl|rfl|rfl|rfl|rfl<;>simp[qa]) (by rcases(by omega:op=1\/op=2\/op=3\/op=4\/op=5)with rfl|rfl|rfl|rfl|rfl<;>simp[za]),if_pos rfl]
theorem kJ{N:Int}{env:GEnv}:Pc ⟨6,N⟩ [] env=some (zt ⟨6,ca .i64 (iab N 16),pab N 16⟩):=by
 rw[Mv (v:=⟨6,ca .i64 (iab N 16),pab N 16⟩) (e:=0) (by simp[qa]) (by simp[za]),if_pos rfl]
theorem OA{N:Int}{env:GEnv}{v:GValue}(hi:idx env.Inputs N=some v) (hv:Ds v=true):Pc ⟨7,N⟩ [] env=some (v,0):=by
 rw[Mv (v:=v) (e:=0) (by grind[qa,Yb]) (by grind[za]),if_pos rfl]
 simp_all[zt]
def rn(op:Int):Prop:=op=1\/op=7\/op=25\/(2<=op/\op<=6)\/(19<=op/\op<=22)
theorem ZA{e:List GNode}{i:Nat}(h:uq e i=true):rn (Aa e i).Op\/(Aa e i).Op=23\/(Aa e i).Op=24:=by
 unfold uq lz qB at h;unfold rn
 grind
theorem nG{n:GNode}{args:List GValue}{env:GEnv}(hl:args.length<=3) (ho:rn n.Op):Ns (ub n args env):=by
 refine AD hl λd h2 h3 e f=>?_;obtain⟨op,N⟩:=n;dsimp only at d h2 ho;have c:args.length=(Ab op).toNat:=by omega
 unfold rn at ho;rcases(by omega:op=1\/op=2\/op=3\/op=4\/op=5\/op=6\/op=7\/op=25\/op=19\/op=20\/op=21\/op=22)with rfl|rfl|rfl|rfl|rfl|rfl|rfl|rfl|rfl|rfl|rfl|rfl
 all_goals
  first
  |(obtain rfl:=List.length_eq_zero_iff.1 c;first|exact Ot (by omega)|exact OQ|exact PQ e)
  |(match args,c with|[a],_=>exact KN (f a (by simp)))
  |(match args,c with|[a,b],_=>grind[TH,UH])
def RL(e:List GNode) (k:Int) (v w:GValue):Prop:=
 v=w\/(v.Kind=w.Kind/\v.Enum=w.Enum/\2<=v.Kind/\v.Kind<=5/\∀i,i<e.length->lz (Aa e i).Op=true->∀c,Hy e i=some (k,c)->c.Op≠6->(v.N<c.N↔w.N<c.N)/\(c.N<v.N↔c.N<w.N))
structure InSame (e:List GNode) (a b:List GValue):Prop where
 len:a.length=b.length
 pl:∀v∈a,ic v
 pr:∀v∈b,ic v
 sm:∀(k:Nat) v w,(∃i,i<e.length/\(Aa e i).Op=7/\(Aa e i).N=(k:Int))->a[k]?=some v->b[k]?=some w->RL e k v w
structure NodeS (e:List GNode) (x y:GEnv) (i:Nat):Prop where
 px:NodeP e x i
 py:NodeP e y i
 eq:No e x i=No e y i\/((Aa e i).Op=7/\(No e x i).2=0/\(No e y i).2=0/\RL e (Aa e i).N (No e x i).1 (No e y i).1)
theorem RL.kind{e:List GNode}{k:Int}{v w:GValue}(h:RL e k v w):v=w\/(v.Kind=w.Kind/\v.Enum=w.Enum/\2<=v.Kind/\v.Kind<=5):=by
 rcases h with h|⟨h1,h2,h3,h4,-⟩
 all_goals simp_all
theorem NodeS.bool{e:List GNode}{x y:GEnv}{i:Nat}(h:NodeS e x y i):Pt (No e x i)=Pt (No e y i):=by
 rcases h.eq with h|⟨-,h1,h2,a⟩
 .rw[h]
 .rcases a.kind with a|⟨k1,-,k2,k3⟩
  all_goals grind[Pt]
theorem NodeS.err{e:List GNode}{x y:GEnv}{i:Nat}(h:NodeS e x y i):(No e x i).2=(No e y i).2:=by
 rcases h.eq with h|⟨-,h1,h2,-⟩
 all_goals simp_all
theorem eR{e:List GNode}{x y:GEnv}{i:Nat}(h:∀t,t<Oc e i->NodeS e x y (Sk e i t)):ff (IA e x i) (Oc e i)=ff (IA e y i) (Oc e i):=
 GM λt ht=>by unfold IA;rw[(h t ht).err]
theorem oG{n:GNode}{x y:GEnv}(h:rn n.Op) (h7:n.Op≠7):Vp n x=Vp n y:=by
 unfold rn at h
 grind[Vp]
theorem arg1{e:List GNode}{x:GEnv}{i:Nat}(h:Oc e i=1):Up e x i=[(No e x (Sk e i 0)).1]:=by grind[Up]
theorem arg2{e:List GNode}{x:GEnv}{i:Nat}(h:Oc e i=2):Up e x i=[(No e x (Sk e i 0)).1,(No e x (Sk e i 1)).1]:=by unfold Up;rw[h];rfl
theorem kM{v w c:Int}(h:(v<c↔w<c)/\(c<v↔c<w)) (op:Int):qI op v c=qI op w c/\qI op c v=qI op c w:=by
 have h3:v=c↔w=c:=by omega
 grind[qI]
theorem EM{e:List GNode}{x:GEnv}{i:Nat}(h:(Aa e i).Op=23\/(Aa e i).Op=24):FO e x i=DG (Aa e i).Op (Aa e i).N (No e x (Sk e i 0)) (No e x (Sk e i 1)) (⟨0,0,0⟩,1):=by
 grind[FO]
theorem wK{e:List GNode}{x:GEnv}{i:Nat}(h:rn (Aa e i).Op):FO e x i=(match ff (IA e x i) (Oc e i)with|some v=>v|none=>(ub (Aa e i) (Up e x i) x).getD (⟨0,0,0⟩,0)):=by
 unfold rn at h
 grind[FO]
theorem u5{ρ:Type}{f:Nat->Option ρ}:ff f 0=none:=by grind[ff]
theorem ap0{n:GNode}{x y:GEnv}(h:1<=n.Op/\n.Op<=6):ub n [] x=ub n [] y:=by
 rw[Un (by simp),Un (by simp),oG (x:=x) (y:=y) (by unfold rn;omega) (by omega)];obtain⟨op,N⟩:=n
 grind[kJ,yC]
theorem ap1{n:GNode}{x y:GEnv}(h:n.Op=25) {a b:GValue}(hp:Ds a=Ds b) (hab:a=b\/(a.Kind=b.Kind/\2<=a.Kind)):ub n [a] x=ub n [b] y:=by
 rw[Un (by simp),Un (by simp),oG (x:=x) (y:=y) (by unfold rn;omega) (by omega)];obtain⟨op,N⟩:=n;dsimp only at h;subst h;have:Pc ⟨25,N⟩ [a] x=Pc ⟨25,N⟩ [b] y:=by
  rw[oM,oM]
  grind
 simp_all
theorem ap2{n:GNode}{x y:GEnv}(h:19<=n.Op/\n.Op<=22) {a a' b c:GValue}(hp:Ds a=Ds a') (hq:Ds b=Ds c) (ha:a.Kind=a'.Kind/\a.Enum=a'.Enum) (hb:b.Kind=c.Kind/\b.Enum=c.Enum)
 (hc:xL a b->qI n.Op a.N b.N=qI n.Op a'.N c.N):ub n [a,b] x=ub n [a',c] y:=by
 rw[Un (by simp),Un (by simp),oG (x:=x) (y:=y) (by unfold rn;omega) (by omega)];obtain⟨op,N⟩:=n;have:Pc ⟨op,N⟩ [a,b] x=Pc ⟨op,N⟩ [a',c] y:=by
  rw[LF h,LF h];by_cases e:xL a b
  .have d:xL a' c:=by unfold xL at e⊢;omega
   simp_all
  .have d:¬xL a' c:=by unfold xL at e⊢;omega
   simp_all
 simp_all
theorem qQ{e:List GNode}{z:GEnv}{j:Nat}(i:NodeP e z j) (hl:qB (Aa e j).Op=true) (a:(No e z j).2=0):((Aa e j).Op=6/\(No e z j).1.Kind=6)\/((Aa e j).Op≠6/\(No e z j).1.N=(Aa e j).N):=by
 unfold qB at hl;simp only[Vaa,decide_eq_true_eq]at hl;have c:Oc e j=0:=by
  unfold Oc;rcases(by omega:(Aa e j).Op=2\/(Aa e j).Op=3\/(Aa e j).Op=4\/(Aa e j).Op=5\/(Aa e j).Op=6)with h|h|h|h|h<;>rw[h]<;>decide
 have f:Up e z j=[]:=by grind[Up]
 have hm:∀v:GValue,(zt v).2=0->(zt v).1=v:=λv h=>by
  grind[zt]
 have key:No e z j=zt (if(Aa e j).Op=6 then⟨6,ca .i64 (iab (Aa e j).N 16),pab (Aa e j).N 16⟩else⟨(Aa e j).Op,0,(Aa e j).N⟩):=by
  have hq:No e z j=(ub (Aa e j) [] z).getD (⟨0,0,0⟩,0):=by
   rw[i.q,wK (by unfold rn;omega),c,u5,f]
  rw[hq,Un (by simp)]at a⊢;split at a
  .split at a
   .have d:([]:List GValue).all Ds=true:=rfl;rename_i g h2;rw[if_pos g,if_pos h2,if_pos d];by_cases b:(Aa e j).Op=6
    .rw[if_pos b,show Pc (Aa e j) [] z=Pc ⟨6,(Aa e j).N⟩ [] z by rw[←b],kJ];rfl
    .rw[if_neg b,show Pc (Aa e j) [] z=some (zt ⟨(Aa e j).Op,0,(Aa e j).N⟩)from yC (op:=(Aa e j).Op) (N:=(Aa e j).N) (by omega)];rfl
   simp_all
  simp_all
 grind
theorem TR{e:List GNode}(h:Wst e) (hf:∀i,i<e.length->uq e i=true) {x y:GEnv}(s:InSame e x.Inputs y.Inputs):∀i,i<e.length->NodeS e x y i:=by
 intro i
 induction i using tad with
 |_ i X=>
  intro hi;have hga:=aA e i;have px:=MK h (env:=x) (λj H hl=>nG (by grind[Up,aA]) ((ZA (hf j H)).resolve_right λh=>hl (by omega))) i hi;have py:=MK h (env:=y) (λj H hl=>nG (by grind[Up,aA]) ((ZA (hf j H)).resolve_right λh=>hl (by omega))) i hi;refine⟨px,py,?_⟩;have a:∀t,t<Oc e i->NodeS e x y (Sk e i t):=λt ht=>X _ (Hm h hi ht).1 (by have:=(Hm h hi ht).1;omega);rw[px.q,py.q];by_cases hl:(Aa e i).Op=23\/(Aa e i).Op=24
  .have hk:2=Oc e i:=by unfold Oc;rcases hl with h|h<;>rw[h]<;>decide
   left;rw[EM hl,EM hl];unfold DG;rw[(a 0 (by omega)).bool,(a 1 (by omega)).bool,if_neg (c:=(Aa e i).Op=26) (by omega),if_neg (c:=(Aa e i).Op=26) (by omega)]
  .have ho:=(ZA (hf i hi)).resolve_right hl;rw[wK ho,wK ho,eR a]
   cases hff:ff (IA e y i) (Oc e i)with
   |some v=>simp
   |none=>
    dsimp only;have E:∀t,t<Oc e i->(No e y (Sk e i t)).2=0:=λt ht=>by
     simp_all[IA,Hb]
    have L:∀t,t<Oc e i->(No e x (Sk e i t)).2=0:=λt ht=>(a t ht).err.trans (E t ht);have p:∀t,t<Oc e i->Ds (No e x (Sk e i t)).1=Ds (No e y (Sk e i t)).1:=λt ht=>by
     unfold Ds;rw[decide_eq_true ((a t ht).px.ok (L t ht)),decide_eq_true ((a t ht).py.ok (E t ht))]
    have hv:∀t,t<Oc e i->(No e x (Sk e i t)).1=(No e y (Sk e i t)).1\/((Aa e (Sk e i t)).Op=7/\RL e (Aa e (Sk e i t)).N (No e x (Sk e i t)).1 (No e y (Sk e i t)).1):=λt ht=>by
     rcases(a t ht).eq with h|⟨D,-,-,h2⟩
     all_goals simp_all
    have hk:∀t,t<Oc e i->(No e x (Sk e i t)).1.Kind=(No e y (Sk e i t)).1.Kind/\(No e x (Sk e i t)).1.Enum=(No e y (Sk e i t)).1.Enum:=λt ht=>by
     rcases hv t ht with h|⟨-,h⟩
     .simp_all
     .rcases h.kind with h|h
      all_goals simp_all
    have I:=ho;unfold rn at I;by_cases h6:1<=(Aa e i).Op/\(Aa e i).Op<=6
    .have d:Oc e i=0:=by
      unfold Oc;rcases(by omega:(Aa e i).Op=1\/(Aa e i).Op=2\/(Aa e i).Op=3\/(Aa e i).Op=4\/(Aa e i).Op=5\/(Aa e i).Op=6)with h|h|h|h|h|h<;>rw[h]<;>decide
     grind[Up,ap0]
    by_cases u:(Aa e i).Op=25
    .have d:Oc e i=1:=by unfold Oc;rw[u];decide
     left;rw[arg1 d,arg1 d,ap1 (y:=y) u (p 0 (by omega))];rcases hv 0 (by omega)with h|⟨-,h⟩
     .simp_all
     .rcases h.kind with h|h
      all_goals grind
    by_cases r:(Aa e i).Op=7
    .have d:Oc e i=0:=by unfold Oc;rw[r];decide
     have P:∀z,Up e z i=[]:=λz=>by grind[Up]
     rw[P,P,Un (by simp),Un (by simp)];have G:Vp (Aa e i) x=Vp (Aa e i) y:=by unfold Vp;rw[if_pos r,if_pos r,s.len]
     rw[G];split
     .by_cases k:Vp (Aa e i) y=true
      .unfold Vp at k;rw[if_pos r,decide_eq_true_eq]at k;have hx:idx x.Inputs (Aa e i).N=some (x.Inputs[(Aa e i).N.toNat]'(by have:=s.len;omega)):=Ng k.1 (by have:=s.len;omega);have W:idx y.Inputs (Aa e i).N=some (y.Inputs[(Aa e i).N.toNat]'(by omega)):=Ng k.1 k.2;have J:=s.pl _ (Qaa (l:=x.Inputs) (n:=(Aa e i).N.toNat) (by grind));have K:=s.pr _ (Qaa (l:=y.Inputs) (n:=(Aa e i).N.toNat) (by omega));have g:=s.sm (Aa e i).N.toNat _ _ ⟨i,hi,r,by omega⟩ (Maa (by grind)) (Maa (by omega));have e7:Aa e i=⟨7,(Aa e i).N⟩:=by rw[←r]
       have eN:(((Aa e i).N.toNat:Nat):Int)=(Aa e i).N:=by omega
       rw[eN]at g;have O:([]:List GValue).all Ds=true:=rfl;have B:Vp (Aa e i) y=true:=by grind[Vp]
       rw[if_pos B,if_pos B,if_pos O,if_pos O];have cx:=OA hx (decide_eq_true J);have cy:=OA W (decide_eq_true K)
       grind
      simp_all
     simp
    .have d:Oc e i=2:=by
      unfold Oc;rcases(by omega:(Aa e i).Op=19\/(Aa e i).Op=20\/(Aa e i).Op=21\/(Aa e i).Op=22)with h|h|h|h<;>rw[h]<;>decide
     left;have w:lz (Aa e i).Op=true:=by grind[lz]
     have A:=hf i hi;unfold uq at A;rw[if_pos w]at A;have Y:=hk 0 (by omega);have Z:=hk 1 (by omega);rw[arg2 d,arg2 d,ap2 (y:=y) (by omega) (p 0 (by omega)) (p 1 (by omega)) Y Z λg=>?_]
     cases f:Hy e i with
     |none=>simp_all
     |some v=>
      have C:=f;unfold Hy at f;rw[if_pos d]at f;split at f
      .rename_i F;obtain rfl:=oab f;have D:(No e x (Sk e i 1)).1=(No e y (Sk e i 1)).1:=(hv 1 (by omega)).resolve_right λh=>by grind[qB]
       have o:=qQ (a 1 (by omega)).py F.2 (E 1 (by omega));rw[D]at g⊢;rcases hv 0 (by omega)with m|⟨-,m|⟨S,T,U,V,M⟩⟩
       .rw[m]
       .rw[m]
       .rcases o with⟨-,b⟩|⟨Q,R⟩
        .exact absurd g.1 (by omega)
        grind[kM]
      .split at f
       .rename_i F;obtain rfl:=oab f;have D:(No e x (Sk e i 0)).1=(No e y (Sk e i 0)).1:=(hv 0 (by omega)).resolve_right λh=>by simp_all
        have o:=qQ (a 0 (by omega)).py F.2 (E 0 (by omega));rw[D]at g⊢;rcases hv 1 (by omega)with m|⟨-,m|⟨S,T,U,V,M⟩⟩
        .rw[m]
        .rw[m]
        .rcases o with⟨-,b⟩|⟨Q,R⟩
         .exact absurd g.1 (by omega)
         .have:=M i hi w _ C Q;rw[R];exact(kM this _).2
       simp_all
noncomputable def ZH(t0 t1:List Int) (i:Nat):Option Int:=
 match t0[i]?,t1[i]? with
 |some p,some q=>if p < -1\/(i:Int)<=p then some 9 else if q<0\/9<q then some 3 else none
 |_,_=>none
noncomputable def OJ(t0 t1:List Int):Int:=
 if¬(t0.length:Int)=(t1.length:Int)then 2 else if 8<(t0.length:Int)then 4 else
 match ff (ZH t0 t1) t0.length with|some v=>v|none=>0
theorem orO{a b:Prop} [Decidable a] [Decidable b] {α:Type}{k:Bool->Option α}:(Laa (α:=Bool) (if¬a then some (decide b)else some true) k)=k (decide (a\/b)):=by
 grind
theorem Dz(t0 t1:List Int):Dj t0 t1=some (OJ t0 t1):=by
 unfold Dj OJ;by_cases hl:(t0.length:Int)=(t1.length:Int)
 case neg=>simp_all
 rw[if_neg (cab.2 hl),if_neg (cab.2 hl)];by_cases a:8<(t0.length:Int)
 .simp_all
 rw[if_neg a,if_neg a];have b:da (lg t0 t1) 0=some (jc () (ff (ZH t0 t1) t0.length)):=
  bc (λi=>(i:Int)) _ t0.length () (λi hi _=>by
   unfold lg ZH;rw[if_pos (by omega),Ca hi,Maa hi,Maa (l:=t1) (by omega)];dsimp only;rw[Kaa,orO,Ca (l:=t1) (by omega),Kaa,orO,ya (by omega)]
   grind[sG]) (λ_=>by grind[lg])
 rw[b];cases ff (ZH t0 t1) t0.length<;>rfl
structure TreeOk (t0 t1:List Int):Prop where
 len:t0.length=t1.length
 le:t0.length<=8
 par:∀i (h:i<t0.length),-1<=t0[i]/\t0[i]<(i:Int)
theorem jT{t0 t1:List Int}(h:OJ t0 t1=0):TreeOk t0 t1:=by
 unfold OJ at h;by_cases hl:(t0.length:Int)=(t1.length:Int)
 case neg=>omega
 rw[if_neg (cab.2 hl)]at h;by_cases a:8<(t0.length:Int)
 .omega
 rw[if_neg a]at h;refine⟨by omega,by omega,λi hi=>?_⟩;have hn:ff (ZH t0 t1) t0.length=none:=by
  grind[ZH,Oa]
 grind[ZH,Hb]
def fU(t0:List Int) (at_:Int):Nat->List Int
 |0=>[]
 |n+1=>if t0[n]?=some at_ then fU t0 at_ n++[(n:Int)]else fU t0 at_ n
def jJ(t0:List Int) (at_:Int):List Int:=fU t0 at_ t0.length
theorem iK(t0:List Int) (a:Int):∀n,(fU t0 a n).length<=n
 |0=>by simp[fU]
 |n+1=>by
  have:=iK t0 a n
  grind[fU]
theorem LA{t0:List Int}{a x:Int}:∀{n:Nat},x∈fU t0 a n->∃k:Nat,x=(k:Int)/\k<n/\t0[k]?=some a
 |0,h=>by grind[fU]
 |n+1,h=>by
  unfold fU at h;split at h
  .rename_i hn;rcases List.mem_append.1 h with h|h
   .obtain⟨k,b,c,d⟩:=LA h;grind
   grind
  .obtain⟨k,b,c,d⟩:=LA h;grind
theorem Cz{t0:List Int}(hl:t0.length<=1048576) (a:Int):Cj t0 a=some (jJ t0 a):=by
 have step:da (kg t0 a) (([]:List Int),0)=some (.inl (jJ t0 a)):=by
  refine Rc (λi=>(fU t0 a i,(i:Int))) t0.length _ (λi hi=>?_) ?_ rfl
  .have h1:=iK t0 a i;unfold kg;dsimp only;rw[if_pos (by omega),Ca hi,Kaa,ya (by omega)];simp only[fU,Maa hi,wab];by_cases hc:t0[i]=a
   .rw[if_pos hc,if_pos hc,wi (by grind)];rfl
   simp_all
  grind[kg,jJ]
 grind[Cj]
def pri(t1:List Int) (x:Int):Int:=(t1[x.toNat]?).getD 0
def Jx(t1:List Int) (out:Int->Int) (acc:List Int) (x:Int):List Int:=
 if out x = -1 then acc else
 match acc with
 |[]=>[x]
 |y::l=>if pri t1 y<pri t1 x then [x]else if pri t1 x=pri t1 y then y::l++[x]else y::l
def Gv(t1:List Int) (out:Int->Int) (l:List Int):List Int:=l.foldl (Jx t1 out) []
theorem Qy{t1:List Int}{out:Int->Int}{l:List Int}:∀x∈Gv t1 out l,x∈l:=by
 have:∀(l acc:List Int),∀x∈l.foldl (Jx t1 out) acc,x∈acc\/x∈l:=by
  intro l
  induction l with
  |nil=>simp
  |cons y l a=>
   intro acc x hx;rcases a _ x hx with h|h
   .unfold Jx at h
    grind
   simp_all
 intro x hx;rcases this l [] x hx with h|h
 all_goals simp_all
theorem gR(t1:List Int) (out:Int->Int) (l:List Int):(Gv t1 out l).length<=l.length:=by
 have:∀(l acc:List Int),(l.foldl (Jx t1 out) acc).length<=acc.length+l.length:=by
  intro l
  induction l with
  |nil=>simp
  |cons y l a=>
   intro acc;refine dac (a _) ?_;have:(Jx t1 out acc y).length<=acc.length+1:=by
    unfold Jx
    grind
   grind
 have h:=this l [];rw[Xab,eac]at h;exact h
theorem aO{t1:List Int}{out:Int->Int}{l:List Int}{x:Int}:Gv t1 out (l++[x])=Jx t1 out (Gv t1 out l) x:=by simp[Gv]
theorem ZL{t1:List Int}{o a:Int->Int}{l:List Int}(h:∀x∈l,o x=a x):Gv t1 o l=Gv t1 a l:=by
 have:∀(l acc:List Int),(∀x∈l,o x=a x)->l.foldl (Jx t1 o) acc=l.foldl (Jx t1 a) acc:=by
  intro l
  induction l with
  |nil=>simp
  |cons y l ih=>
   simp_all[Jx]
 exact this l [] h
theorem iR{t1:List Int}{out:Int->Int}{l:List Int}(hl:l.length<=100) (hm:∀x∈l,0<=x/\x<(t1.length:Int)) {step:List Int×Int->Option (Ex (List Int×Int) (List Int) Unit)}{g:Int->Option Int}(C:∀x∈l,g x=some (out x)) {mt:List Int->Option (List Int)}(j:∀q,mt q=some [])
 (D:∀a b,step (a,b)=if b<(l.length:Int)then
  Laa (α:=(List Int)) (
   (idx l b).bind λh=>(g h).bind λE=>if E=(-1)then some a else
   Laa (α:=(List Int)) (Laa (α:=Bool) (if 0<(a.length:Int)then(idx t1 h).bind λF=>(idx a 0).bind λp=>(idx t1 p).bind λs=>some (decide (s<F))else some false) λm=>if m=true then mt a else some a) λc=>
   Laa (α:=Bool) (if¬(c.length:Int)=0 then(idx t1 h).bind λt=>(idx c 0).bind λu=>(idx t1 u).bind λv=>some (t==v)else some true) λn=>
   if n=true then(app 8 c ([h])).bind λw=>some w else some c) λo=>some (Ex.go (o,(ca .i64 (b+1))))
  else some (Ex.brk a)):da step (([]:List Int),0)=some (.inl (Gv t1 out l)):=by
 refine Rc (λi=>(Gv t1 out (l.take i),(i:Int))) l.length _ (λi hi=>?_) ?_ rfl
 .have B:=gR t1 out (l.take i);have h2:(l.take i).length<=l.length:=by grind
  have d:∀y∈Gv t1 out (l.take i),0<=y/\y<(t1.length:Int):=λy z=>hm y (List.mem_of_mem_take (Qy y z));rw[D,if_pos (by omega),Ca hi,Kaa,C _ (Qaa hi),Kaa,ya (by omega),tab,Maa hi];have hx:=hm _ (Qaa hi);simp only[Vab,aO];generalize l[i]=x at hx⊢;have k:idx t1 x=some (pri t1 x):=by grind[pri,Ng]
  generalize Gv t1 out (l.take i)=acc at B d⊢;unfold Jx;by_cases ho:out x = -1
  .simp_all
  rw[if_neg ho,if_neg ho];rcases acc with _|⟨y,r⟩
  .simp_all[wi]
  .have z:=d y (by simp);have f:idx t1 y=some (pri t1 y):=by grind[pri,Ng]
   have A:∀(q:List Int),idx (y::q) 0=some y:=λq=>by simp[idx]
   dsimp only;rw[if_pos (by simp),k,A,Kaa,Kaa,f,Kaa,Kaa];by_cases e:pri t1 y<pri t1 x
   .rw[if_pos (by simp_all),j,Kaa,if_neg (by simp),Kaa,if_pos rfl,wi (by simp),if_pos e];rfl
   .rw[if_neg (by simp_all),Kaa,if_pos (by grind),Kaa,A,Kaa,f,Kaa,Kaa,if_neg e];by_cases he:pri t1 x=pri t1 y
    .rw[if_pos (by simp_all),if_pos he,wi (by grind)];rfl
    simp_all
 simp_all
def UN(t1:List Int) (out:Int->Int) (l:List Int):Int:=
 match Gv t1 out l with
 |[]=>-1
 |[x]=>out x
 |_=>-2
theorem xS{t1:List Int}{o a:Int->Int}{l:List Int}(h:∀x∈l,o x=a x):UN t1 o l=UN t1 a l:=by
 grind[UN,ZL,Qy]
def oc(t0 t1:List Int) (t2:List Bool):Nat->Int->Int
 |0,_=>-1
 |k+1,i=>if UN t1 (oc t0 t1 t2 k) (jJ t0 i) = -1/\(t2[i.toNat]?).getD false=true then i else UN t1 (oc t0 t1 t2 k) (jJ t0 i)
theorem SP{t0 t1:List Int}(h:TreeOk t0 t1) {i x:Int}(hx:x∈jJ t0 i):i<x/\0<=x/\x<(t0.length:Int):=by
 obtain⟨k,rfl,hk,hp⟩:=LA hx;have:=h.par k hk
 simp_all
theorem vS{t0 t1:List Int}{t2:List Bool}(h:TreeOk t0 t1):∀(d:Nat) (i:Int),0<=i->(t0.length:Int)-i<=d->∀k a:Nat,(t0.length:Int)-i<=k->(t0.length:Int)-i<=a->i<t0.length->oc t0 t1 t2 k i=oc t0 t1 t2 a i:=by
 intro d
 induction d with
 |zero=>omega
 |succ d ih=>
  intro i h0 hd k a hk hk' hi;obtain⟨k,rfl⟩:∃m,k=m+1:=⟨k-1,by omega⟩;obtain⟨a,rfl⟩:∃m,a=m+1:=⟨a-1,by omega⟩;have:UN t1 (oc t0 t1 t2 k) (jJ t0 i)=UN t1 (oc t0 t1 t2 a) (jJ t0 i):=xS λx hx=>by
   have:=SP h hx
   grind
  grind[oc]
def O(t0 t1:List Int) (t2:List Bool) (i:Int):Int:=oc t0 t1 t2 t0.length i
theorem O_eq{t0 t1:List Int}{t2:List Bool}(h:TreeOk t0 t1) {i:Int}(a:0<=i) (b:i<t0.length):O t0 t1 t2 i=if UN t1 (O t0 t1 t2) (jJ t0 i) = -1/\(t2[i.toNat]?).getD false=true then i else UN t1 (O t0 t1 t2) (jJ t0 i):=by
 unfold O;rw[vS h t0.length i a (by omega) t0.length (t0.length+1) (by omega) (by omega) b];rfl
noncomputable def RE(t0 t1:List Int) (t2:List Bool):Int:=if OJ t0 t1=0/\t2.length=t0.length then UN t1 (O t0 t1 t2) (jJ t0 (-1))else -1
theorem vB{t0 t1 out:List Int}(h:TreeOk t0 t1) {f:Int->Int}{i:Int}(ho:∀x∈jJ t0 i,idx out x=some (f x)):Kb ⟨t0,t1,out⟩ i=some (UN t1 f (jJ t0 i)):=by
 have hle:=h.le;have hlen:=h.len;have hcl:=iK t0 i t0.length;unfold Kb Jl;dsimp only;rw[Cz (by omega) i,Kaa];have hb:=iR (t1:=t1) (out:=f) (l:=jJ t0 i) (by grind[jJ]) (λx hx=>by have:=SP h hx;omega) (step:=vi ⟨t0,t1,out⟩ (jJ t0 i)) (g:=λx=>idx out x) ho (mt:=λq=>(wu q 0).bind λc=>some c) (λq=>by rw[show(0:Int)=((0:Nat):Int)from rfl,nw (by omega)];rfl) (λa b=>by grind[vi]);rw[hb];simp only[Kaa];unfold UN;have d:=Qy (t1:=t1) (out:=f) (l:=jJ t0 i);generalize Gv t1 f (jJ t0 i)=r at d⊢;rcases r with _|⟨x,_|⟨y,q⟩⟩
 all_goals grind[idx]
theorem ZO{t0 t1:List Int}{t2:List Bool}(h:TreeOk t0 t1) (h2:t2.length=t0.length):Ej t0 t1 t2=some ((Zaa t0.length).map λ(k:Nat)=>O t0 t1 t2 (k:Int)):=by
 have hle:=h.le;unfold Ej;rw[dw (by omega) (by omega),Kaa,wid (by omega) (by omega)];have hl:da (mg t0 t1 t2) (Oaa t0.length 0,(t0.length:Int)-1)=some (.inl ((Zaa t0.length).map λ(k:Nat)=>O t0 t1 t2 (k:Int))):=by
  refine Rc (λt=>((Zaa t0.length).map (λ(k:Nat)=>if k<t0.length-t then 0 else O t0 t1 t2 (k:Int)),(t0.length:Int)-1-t)) t0.length _ (λt ht=>?_) ?_ ?_
  .obtain⟨j,hj⟩:∃j,t0.length=t+j+1:=⟨t0.length-t-1,by omega⟩;have f:(t0.length:Int)-1-t=(j:Int):=by omega
   have b:t0.length-t=j+1:=by omega
   have c:t0.length-(t+1)=j:=by omega
   skip
   rw[f,b,c];unfold mg;dsimp only;rw[if_pos (by omega)];have d:Kb ⟨t0,t1,(Zaa t0.length).map (λ(k:Nat)=>if k<j+1 then 0 else O t0 t1 t2 (k:Int))⟩ (j:Int)=some (UN t1 (O t0 t1 t2) (jJ t0 (j:Int))):=by
    refine vB h λx hx=>?_;have:=SP h hx;obtain⟨k,rfl⟩:=fac this.2.1;rw[Ca (by grind)]
    grind
   rw[d,Kaa,Ca (by grind),Kaa,yv (by grind),Kaa];rw[Ca (by grind)];simp only[cae,Kaa];have e:=O_eq (t2:=t2) h (i:=(j:Int)) (by omega) (by omega);rw[wac,Maa (by omega)]at e;simp only[Option.getD_some]at e;have a:∀v,v=O t0 t1 t2 (j:Int)->((Zaa t0.length).map (λ(k:Nat)=>if k<j+1 then 0 else O t0 t1 t2 (k:Int))).set j v=(Zaa t0.length).map (λ(k:Nat)=>if k<j then 0 else O t0 t1 t2 (k:Int)):=by
    intro v hv;apply Sab
    all_goals grind
   have hw:ca .i64 ((j:Int)-1)=(t0.length:Int)-1-((t+1:Nat):Int):=by grind[wid]
   by_cases hm:UN t1 (O t0 t1 t2) (jJ t0 (j:Int)) = -1
   .rw[if_pos hm,Ca (l:=t2) (by omega),Kaa,Kaa];by_cases ha:t2[j]'(by omega)=true
    .rw[if_pos ha,yv (by grind),Kaa,Kaa,List.set_set,a _ (by simp_all),hw]
    simp_all
   simp_all
  .grind[mg]
  ·((try dsimp only))
   rw[Nat.sub_zero];congr 1
   .apply Sab
    all_goals simp_all
   .simp
 simp_all
theorem Mq(t0 t1:List Int) (t2:List Bool):Ji t0 t1 t2=some (RE t0 t1 t2):=by
 unfold Ji RE;rw[Dz t0 t1,Kaa];by_cases hv:OJ t0 t1=0
 case neg=>simp_all
 rw[if_pos hv,Kaa];by_cases h2:t2.length=t0.length
 case neg=>grind
 have h:=jT hv;rw[if_neg (by simp_all),if_pos ⟨hv,h2⟩,ZO h h2,Kaa,vB h (f:=O t0 t1 t2) λx hx=>by
  have:=SP h hx;obtain⟨k,rfl⟩:=fac this.2.1
  grind[Ca]]
 rfl
section
variable {rules:List GRule} {q:GRule->Bool}
end
def DH(s:GScope) (x:Int):Int:=((s.Rules[x.toNat]?).map (·.Priority)).getD 0
def xa(s:GScope) (d date:Int):List Int×List Int×List Int:=
 ((zi s.Rules (Cu d date) s.Rules.length).1,(zi s.Rules (Cu d date) s.Rules.length).2.1,(zi s.Rules (Cu d date) s.Rules.length).1.map (DH s))
theorem Ap{s:GScope}(a:s.Rules.length<=1048576) (d date:Int):Bf s d date=some (xa s d date):=by
 unfold Bf xa;rw[Uq a (q:=Cu d date) (λr=>by
  grind[Te,Cu,Si]),Kaa]
 have hl:=(Jn (rules:=s.Rules) (q:=Cu d date) s.Rules.length).2.1;have hm:=Bj (rules:=s.Rules) (q:=Cu d date) s.Rules.length;generalize (zi s.Rules (Cu d date) s.Rules.length).2.1=pp;generalize (zi s.Rules (Cu d date) s.Rules.length).1=L at hl hm;have h1:da (Mg s (L,pp)) (([]:List Int),0)=some (.inl (L.map (DH s))):=by
  refine Rc (λi=>((L.take i).map (DH s),(i:Int))) L.length _ (λi hi=>?_) ?_ rfl
  .have hx:=hm _ (Qaa hi);have h2:(L.take i).length<=L.length:=by grind
   unfold Mg;dsimp only;rw[if_pos (by omega),Ca hi,Kaa,Ng hx.1 hx.2.1,Kaa,wi (by grind),Kaa,ya (by omega),tab,Maa hi]
   grind[DH]
  simp_all[Mg]
 simp_all
noncomputable def PE(l:GLaw) (gs:List (List GNode)) (f:GField) (i:Nat):List Int:=if rp gs i=true then vH f.Type_ l.Enums (Wc (Gc gs i gs.length))else [0]
noncomputable def Ci(l:GLaw) (gs:List (List GNode)) (s:GScope):Nat->List (List Int)
 |0=>[]
 |k+1=>Ci l gs s k++(match s.Inputs[k]? with|some f=>[PE l gs f k]|none=>[])
noncomputable def tn(l:GLaw) (sc def_ date:Int):List (List Int)×Int:=
 if¬(Nl l).Code=0 then([],1)
 else if sc<0\/(l.Scopes.length:Int)<=sc then([],6)
 else match l.Scopes[sc.toNat]? with
  |none=>([],6)
  |some s=>
   if def_<0\/(s.Defs.length:Int)<=def_ then([],6)
   else if date<0\/109572<date then([],3)
   else if((Al s def_ date).any λg=>!Fm g (Jo l s))=true then([],17)
   else if 4096<Nx (Ci l (Al s def_ date) s s.Inputs.length)then([],4)
   else(Ci l (Al s def_ date) s s.Inputs.length,0)
theorem Yr{e:List GNode}{s:GSignature}(h:Fm e s=true):Wst e:=by
 unfold Fm at h;simp only[Vaa,decide_eq_true_eq]at h
 grind[cI]
theorem Qt{gs:List (List GNode)}(hg:gs.length<=1048576) (hw:∀g∈gs,Wst g) (i:Int):(Wc (Gc gs i gs.length)).length<=1099511627:=by
 grind[qe,Tr]
theorem JW{l:GLaw}(hm:∀x∈l.Enums,x.Members.length<=16) {gs:List (List GNode)}(a:gs.length<=1048576) (hw:∀g∈gs,Wst g) (f:GField) (i:Nat):(PE l gs f i).length<=1099511628:=by
 unfold PE;split
 .have h1:=Qt a hw (i:Int);unfold vH;split
  .simp
  .rename_i hlt;split
   .rename_i hk;obtain⟨b1,b2,b3,b4,b5⟩:=uC (t:=f.Type_) (e:=l.Enums) λx hx=>by grind
    grind[pw]
   grind[qe]
 simp
theorem Bp{l:GLaw}(hm:∀x∈l.Enums,x.Members.length<=16) {gs:List (List GNode)}(a:gs.length<=1048576) (hw:∀g∈gs,Wst g) (s:GScope):∀k,(Ci l gs s k).length<=k/\∀r∈Ci l gs s k,r.length<=1099511628
 |0=>by simp[Ci]
 |k+1=>by
  obtain⟨h1,h2⟩:=Bp hm a hw s k
  grind[Ci,JW]
theorem V4{sc:Int}{n:Nat}{d:Int}{l:GLaw}{o:Option Bool}(ho:o=(if¬sc<0 then if¬(l.Scopes.length:Int)<=sc then if¬d<0 then(idx l.Scopes sc).bind λx=>some (decide ((x.Defs.length:Int)<=d))else some true else some true else some true)) :
 o=some (if sc<0\/(l.Scopes.length:Int)<=sc then true else match l.Scopes[sc.toNat]? with|none=>true|some s=>decide (d<0\/(s.Defs.length:Int)<=d)):=by
 rw[ho];by_cases a:sc<0
 .grind
 by_cases h2:(l.Scopes.length:Int)<=sc
 .simp_all
 rw[if_pos a,if_pos h2,if_neg (show¬(sc<0\/(l.Scopes.length:Int)<=sc) by omega),Ng (by omega) (by omega),Maa (by omega)]
 grind
theorem WL{gs:List (List GNode)}{s:GSignature}{p:List GNode->GSignature->Option Bool}(e:∀g∈gs,p g s=some (Fm g s)) (hg:gs.length<=1048576) {step:Int->Option (Ex Int Unit (List (List Int)×Int))}
 (a:∀i (hi:i<gs.length),step (i:Int)=(p gs[i] s).bind λx=>if x=false then some (.ret ([],17))else some (.go (ca .i64 ((i:Int)+1)))) (b:step (gs.length:Int)=some (.brk ())) :
 da step 0=some (if(gs.any λg=>!Fm g s)=true then .inr ([],17)else .inl ()):=by
 have d:da step 0=some (jc () (ff (λi=>if(gs[i]?.any λg=>!Fm g s)=true then some (([],17):List (List Int)×Int)else none) gs.length)):=by
  refine bc (λk=>(k:Int)) _ _ _ (λk hk _=>?_) (λ_=>b) rfl;rw[a k hk,e _ (Qaa hk),Kaa,ya (by omega),Maa hk,Yab];cases Fm gs[k] s<;>rfl
 rw[d,←pn (g:=λ_=>(([],17):List (List Int)×Int))]
 cases hf:ff (λi=>if(gs[i]?.any λg=>!Fm g s)=true then some (([],17):List (List Int)×Int)else none) gs.length with
 |none=>rfl
 |some v=>
  obtain⟨j,-,c,-⟩:=Oa.1 hf;split at c
  .injection c with c;subst c;rfl
  simp_all
theorem Rs{l:GLaw}(h:LawOk l) (sc def_ date:Int):qm l sc def_ date=some (tn l sc def_ date):=by
 unfold qm tn;rw[yq h,Kaa];by_cases hv:(Nl l).Code=0
 .have q:=Au hv;have hm:=q.mem;have hr:=q.rows;rw[if_neg (show¬¬(Nl l).Code=0 from λh=>h hv),if_neg (show¬¬(Nl l).Code=0 from λh=>h hv),V4 (n:=0) rfl,Kaa];by_cases t:sc<0\/(l.Scopes.length:Int)<=sc
  .simp_all
  rw[if_neg t,if_neg t];obtain⟨i,rfl⟩:∃i:Nat,sc=(i:Int):=⟨sc.toNat,by omega⟩;have hi:i<l.Scopes.length:=by omega
  rw[wac,Maa hi,Ca hi];have o:=wE h (λx hx=>by grind) (λx hx=>by grind) hi;obtain⟨g1,g2,g3,g4,g5,u⟩:=h.s _ (Qaa hi);have c:∀r∈l.Scopes[i].Rules,RuleOk r:=λr hr=>pL h hi hr;dsimp only;generalize l.Scopes[i]=s at o g1 g2 g3 g4 g5 u c⊢;by_cases hd:def_<0\/(s.Defs.length:Int)<=def_
  .simp_all
  rw[if_neg (show¬decide (def_<0\/(s.Defs.length:Int)<=def_)=true by simp_all),if_neg hd];have e:(if¬date<0 then some (decide (109572<date))else some true)=some (decide (date<0\/109572<date)):=by
   grind
  rw[e,Kaa];by_cases d:date<0\/109572<date
  .simp_all
  rw[if_neg (by simp_all),if_neg d,Kaa,mz g2.rules,Kaa,o,Kaa];have j:=aB s def_ date;have m:=λg a=>OM (s:=s) (def_:=def_) (date:=date) (g:=g) a;have gr:=g2.rules;generalize Al s def_ date=gs at j m⊢;have hN:∀g∈gs,∀n∈g,Xa n:=λg a=>by
   grind
  rw[WL (p:=Vn) (λg a=>EF (hN g a) _) (by omega) (step:=lk gs (Jo l s)) (λk hk=>by
   unfold lk;rw[if_pos (by omega),Ca hk,Kaa]) (by grind[lk]),Kaa]
  cases f:gs.any λg=>!Fm g (Jo l s)
  .simp only[Saa,if_false];have hw:∀g∈gs,Wst g:=λg a=>Yr (by have:=Pad.1 f g a;simpa using this);have b:∀g∈gs,g.length<=1048576:=λg a=>by have:=(hw g a).le;omega
   have hl:da (ik l s gs) (([]:List (List Int)),0)=some (.inl (Ci l gs s s.Inputs.length)):=by
    refine Rc (λk=>(Ci l gs s k,(k:Int))) s.Inputs.length _ (λk hk=>?_) (by grind[ik]) rfl;have hlen:=(Bp hm (by omega) hw s k).1;unfold ik;simp only[Ci,Maa hk];rw[if_pos (by omega),Ca hk,Kaa,nz (by omega) b,Kaa,KA (by omega) hw hN,ya (by omega)];unfold PE;cases rp gs (k:Int)
    .simp only[Saa,if_false,Kaa]
     grind[wi]
    .simp only[if_true,Kaa]
     grind[Jv,Qt,wi]
   grind[Bp,oI]
  .rfl
 simp_all
theorem IB{l:GLaw}(h:LawOk l) (sc def_ date:Int):xr l sc def_ date=some (tn l sc def_ date):=by
 unfold xr tn;rw[iD h,Kaa];by_cases hv:(Nl l).Code=0
 .have q:=Au hv;have hm:=q.mem;have hr:=q.rows;rw[if_neg (show¬¬(Nl l).Code=0 from λh=>h hv),if_neg (show¬¬(Nl l).Code=0 from λh=>h hv),V4 (n:=0) rfl,Kaa];by_cases t:sc<0\/(l.Scopes.length:Int)<=sc
  .simp_all
  rw[if_neg t,if_neg t];obtain⟨i,rfl⟩:∃i:Nat,sc=(i:Int):=⟨sc.toNat,by omega⟩;have hi:i<l.Scopes.length:=by omega
  rw[wac,Maa hi,Ca hi];have o:=fv h hi;obtain⟨g1,g2,g3,g4,g5,u⟩:=h.s _ (Qaa hi);have c:∀r∈l.Scopes[i].Rules,RuleOk r:=λr hr=>pL h hi hr;dsimp only;generalize l.Scopes[i]=s at o g1 g2 g3 g4 g5 u c⊢;by_cases hd:def_<0\/(s.Defs.length:Int)<=def_
  .simp_all
  rw[if_neg (show¬decide (def_<0\/(s.Defs.length:Int)<=def_)=true by simp_all),if_neg hd];have e:(if¬date<0 then some (decide (109572<date))else some true)=some (decide (date<0\/109572<date)):=by
   grind
  rw[e,Kaa];by_cases d:date<0\/109572<date
  .simp_all
  rw[if_neg (by simp_all),if_neg d,Kaa,pH g2.rules,Kaa,o,Kaa];have j:=aB s def_ date;have m:=λg a=>OM (s:=s) (def_:=def_) (date:=date) (g:=g) a;have gr:=g2.rules;generalize Al s def_ date=gs at j m⊢;have hN:∀g∈gs,∀n∈g,Xa n:=λg a=>by
   grind
  rw[WL (p:=so) (λg a=>oH (hN g a) _) (by omega) (step:=bp gs (Jo l s)) (λk hk=>by
   unfold bp;rw[if_pos (by omega),Ca hk,Kaa]) (by grind[bp]),Kaa]
  cases f:gs.any λg=>!Fm g (Jo l s)
  .simp only[Saa,if_false];have hw:∀g∈gs,Wst g:=λg a=>Yr (by have:=Pad.1 f g a;simpa using this);have b:∀g∈gs,g.length<=1048576:=λg a=>by have:=(hw g a).le;omega
   have hl:da (Zo l s gs) (([]:List (List Int)),0)=some (.inl (Ci l gs s s.Inputs.length)):=by
    refine Rc (λk=>(Ci l gs s k,(k:Int))) s.Inputs.length _ (λk hk=>?_) (by grind[Zo]) rfl;have hlen:=(Bp hm (by omega) hw s k).1;unfold Zo;simp only[Ci,Maa hk];rw[if_pos (by omega),qH (by omega) b,Kaa,Ca hk,Kaa,HB (by omega) hw hN,ya (by omega)];unfold PE;cases rp gs (k:Int)
    .simp only[Saa,if_false,Kaa]
     grind[wi]
    .simp only[if_true,Kaa]
     grind[gw,Qt,wi]
   grind[Bp,SI]
  .rfl
 simp_all
theorem aS{l:GLaw}(h:LawOk l) (sc def_ date:Int):(tn l sc def_ date).1.length<=1099511627776/\∀x∈(tn l sc def_ date).1,x.length<=1099511627776:=by
 unfold tn;split
 .simp
 rename_i hv;have d:=Au (cab.1 hv);split
 .simp
 split
 .simp
 rename_i s f;obtain⟨hi,b⟩:=List.getElem?_eq_some_iff.1 f;have c:s∈l.Scopes:=b▸Qaa hi;obtain⟨g1,g2,g3,-⟩:=h.s s c;have hgl:=aB s def_ date;have gr:=g2.rules;split
 .simp
 split
 .simp
 split
 .simp
 rename_i hfl;split
 .simp
 have a:∀g∈Al s def_ date,Fm g (Jo l s)=true:=by simp_all
 have hw:∀g∈Al s def_ date,Wst g:=λg e=>Yr (a g e);obtain⟨q1,q2⟩:=Bp d.mem (by omega) hw s s.Inputs.length
 grind
theorem fillB{n:Nat}{f:Nat->Bool}{ρ:Type}{step:List Bool×Int->Option (Ex (List Bool×Int) (List Bool) ρ)}(b:∀i,i<n->∀a:List Bool,a.length=n->step (a,(i:Int))=some (.go (a.set i (f i),((i+1:Nat):Int)))) (he:∀a,step (a,(n:Int))=some (.brk a)) :
 da step (Oaa n false,0)=some (.inl ((Zaa n).map f)):=by
 refine Rc (λi=>((Zaa n).map λk=>if k<i then f k else false,(i:Int))) n _ (λi hi=>?_) ?_ ?_
 .rw[b i hi _ (by simp)];congr 3;apply Sab (by simp)
  grind
 .simp_all
 .simp;apply Sab (by simp);simp
def tt(s:GScope) (i:Int):List GNode:=((s.Rules[i.toNat]?).map (·.Guard)).getD []
noncomputable def gT(e:List GNode) (env:GEnv):Bool:=if(e.length:Int)=0 then true else((ib e env).map λp=>decide (p.2=0)&&(p.1.N==1)).getD false
noncomputable def Hz(s:GScope) (rules:List Int) (env:GEnv):List Bool:=(Zaa rules.length).map λk=>gT (tt s (rules.getD k 0)) env
theorem SO{s:GScope}{rules:List Int}{env:GEnv}{i:Nat}(hi:i<rules.length) (hm:∀x∈rules,0<=x/\x<(s.Rules.length:Int)) (ht:∀x∈rules,(tt s x).length≠0->Ns (ib (tt s x) env)) {a:List Bool}(ha:a.length=rules.length) :
 ((
  idx rules (i:Int)).bind λl=>(idx s.Rules l).bind λh=>
  if(h.Guard.length:Int)=0 then(idx a (i:Int)).bind λx8=>(put a (i:Int) true).bind λm=>some m
  else(ib h.Guard env).bind λb=>if b.2=0 then(idx a (i:Int)).bind λx12=>(put a (i:Int) (b.1.N==1)).bind λc=>some c
   else(idx a (i:Int)).bind λx14=>(put a (i:Int) false).bind λd=>some d)=some (a.set i (gT (tt s (rules.getD i 0)) env)):=by
 have hx:=hm _ (Qaa hi);have g:=ht _ (Qaa hi);rw[Ca hi,Kaa,Ng hx.1 hx.2,Kaa,Ca (by omega)];have j:tt s rules[i]=(s.Rules[rules[i].toNat]'(by omega)).Guard:=by grind[tt]
 have er:rules.getD i 0=rules[i]:=by simp_all
 rw[er];rw[←j];generalize tt s rules[i]=e at g⊢;unfold gT;by_cases f:(e.length:Int)=0
 .simp_all[yv]
 .obtain⟨p,k,-⟩:=g (by omega);rw[if_neg f,if_neg f,k,Kaa];by_cases h2:p.2=0
  all_goals simp_all[yv]
def Lw(fs:List GField) (g:List (List Int)) (c:List Int) (i:Nat):GValue:=⟨((fs[i]?).map (·.Type_.Kind)).getD 0,((fs[i]?).map (·.Type_.Enum)).getD 0,((g.getD i [])[(c.getD i 0).toNat]?).getD 0⟩
def xz(fs:List GField) (g:List (List Int)) (c:List Int):List GValue:=(Zaa fs.length).map (Lw fs g c)
theorem Fb.get:∀{g:List (List Int)}{c:List Int},Fb g c->∀i (h:i<g.length),∃h2:i<c.length,0<=c[i]/\c[i]<(g[i].length:Int)
 |l::g,a::r,h,0,_=>⟨by simp,h.1.1,h.1.2.1⟩
 |l::g,a::r,h,i+1,hi=>by
  obtain⟨h2,b⟩:=Fb.get h.2 i (by simpa using hi);exact⟨by simpa using h2,by simpa using b⟩
theorem yJ{fs:List GField}{g:List (List Int)}{c:List Int}(hf:fs.length<=1048576) (hg:g.length=fs.length) (hc:Fb g c) {step:List GValue×Int->Option (Ex (List GValue×Int) (List GValue) Unit)}
 (j:∀a i,step (a,i)=if i<(fs.length:Int)then(idx fs i).bind λb=>(idx g i).bind λd=>(idx c i).bind λe=>(idx d e).bind λf=>(app 24 a ([(GValue.mk b.Type_.Kind b.Type_.Enum f)])).bind λh=>some (Ex.go (h,(ca .i64 (i+1))))else some (Ex.brk a)) :
 da step (([]:List GValue),0)=some (.inl (xz fs g c)):=by
 refine Rc (λi=>((Zaa i).map (Lw fs g c),(i:Int))) fs.length _ (λi hi=>?_) ?_ rfl
 .obtain⟨h2,k,l⟩:=hc.get i (by omega);rw[j,if_pos (by omega),Ca hi,Kaa,Ca (by omega),Kaa,Ca h2,Kaa,Ng k l,Kaa,wi (by simp;omega),Kaa,ya (by omega),List.range_succ,Tab];congr 4;unfold Lw;simp[Maa hi,List.getD_eq_getElem?_getD,Maa h2,Maa (show i<g.length by omega),Maa (show c[i].toNat<g[i].length by omega)]
 .rw[j,if_neg (by omega)];rfl
end Go.Proofs.Dev
