/-
  The functions as plain partial functions, and plain lemmas about them: no condition.
-/
import Derived.Test.YtmhfebelfmgckaaGreatDoorPA
open Option renaming some->M,none->q6
open Decidable renaming decide->s5
open Go.Tm.Ex renaming go->i!,brk->i?,ret->l?
open Bool renaming and_false->mae,false_and->Iad,false_eq_true->t!,not_eq_true->Kac,not_false->iac,not_true->γ,or_false->tae,true_and->Μ,true_eq_false->O!,true->a35,false->a36
open ByteArray renaming empty->xad,mk->n?
open Classical renaming not_forall->iae,not_imp->Cae
open Int renaming natAbs_tdiv->Mae,reduceBEq->E?,reduceEq->t?,tdiv->s?,tdiv_nonneg->Aad,tmod->v?,tmod_nonneg->eae
open List renaming any_eq_true->Lac,cons_append->G!,eq_nil_of_length_eq_zero->Ε,filter_append->ι,foldl_cons->Z',getElem?_eq_getElem->n!,getElem_mem->y!,getElem_of_mem->H',getElem_take->Yac,length_filter_le->Ο,mem_cons->Y',mem_filter->mac,mem_map->X',mem_of_mem_drop->aad,mem_singleton->ψ,nodup_cons->yac,pairwise_cons->Hab,range->o?,replicate->l!,take_add_one->O',take_length->η,length->a00
open Nat renaming add_zero->oac,le_refl->x?,le_trans->P'
open Option renaming any_some->qac,bind->b?,bind_some->a!,getD_some->Τ,isSome_iff_exists->Iac
open Option.some renaming inj->J!,injEq->T!
set_option linter.all false
namespace Go.Tm
variable {i b:Nat}
variable {α β ρ σ:Type}
theorem g!{n:Int}(h1:-9223372036854775808<=n) (h2:n<9223372036854775808):aa .i64 n=n:=by
 grind[aa,pL]
theorem pa(h:i<4611686018427387904):aa .i64 ((i:Int)+1)=((i+1:Nat):Int):=by
 grind[g!]
theorem wa{l:List α}(h:i<a00 l):c! l (i:Int)=M l[i]:=by
 grind[c!]
theorem ao1{l:List α}:c! l (i:Int)=l[i]?:=by
 simp[c!]
theorem Nh{l:List α}{i:Int}(h1:0<=i) (h2:i<a00 l):c! l i=M (l[i.toNat]' U):=by
 simp_all[c!]
theorem HR{b:ByteArray}(h:i<b.size):tA b (i:Int)=M (b[i].toNat:Int):=by
 simp_all[tA]
theorem mB{l:List α}(h:i<=a00 l):Fw l (i:Int)=M (l.take i):=by
 simp_all[Fw]
theorem ae1{l:List α}(h:i<=a00 l):pK l (i:Int)=M (l.drop i):=by
 simp_all[pK]
theorem me{l r:List α}(h:(a00 l+a00 r)*b<=140737488355328):app b l r=M (l++r):=J U
theorem WD{l:List α}{x:α}(h:i<a00 l):put l (i:Int) x=M (l.set i x):=by
 simp_all[put]
theorem DB{n:Nat}{x:α}(h:n*b<=281474976710656) (h2:n<=4611686018427387904):fD b x (n:Int) (n:Int)=M (l! n x):=by
 grind[fD]
def ff(f:Nat->Option ρ):Nat->Option ρ
 |0=>q6
 |n+1=>match f 0 with|some v=>M v|none=>ff (λi=>f (i+1)) n
theorem Xa{f:Nat->Option ρ}:∀{n:Nat},ff f n=q6↔∀i,i<n->f i=q6
 |0=>by simp[ff]
 |n+1=>by
  simp only[ff];constructor
  .intro h i hi
   cases a:f 0 with
   |some v=>simp_all
   |none=>
    simp only[a]at h
    cases i with
    |zero=>omega
    |succ i=>exact(Xa (f:=λi=>f (i+1))).1 h i U
  .intro h;rw[h 0 U];exact Xa.2 λi hi=>h (i+1) U
theorem Oa{f:Nat->Option ρ}{v:ρ}:∀{n:Nat},ff f n=M v↔∃i,i<n/\f i=M v/\∀j,j<i->f j=q6
 |0=>by simp[ff]
 |n+1=>by
  simp only[ff];constructor
  .intro h
   cases b:f 0 with
   |some w=>grind
   |none=>
    simp only[b]at h;obtain⟨i,c,h2,a⟩:=(Oa (f:=λi=>f (i+1))).1 h;exact⟨i+1,U,h2,λj hj=>by cases j with|zero=>omega|succ j=>simp_all⟩
  .rintro⟨i,c,h2,a⟩
   cases i with
   |zero=>rw[h2]
   |succ i=>
    rw[a 0 U];exact Oa.2 ⟨i,U,h2,λj hj=>a (j+1) U⟩
def Ib(b:β):Option ρ->β⊕ρ
 |none=>.inl b
 |some v=>.inr v
def UD(s:σ):Option ρ->Ex σ β ρ
 |none=>.go s
 |some v=>.ret v
theorem VJ{b:β}:Ib b (q6:Option ρ)=.inl b:=rfl
theorem aZ{b:β}{v:ρ}:Ib b (M v)=.inr v:=rfl
def ch4{s:σ}:(UD s (q6:Option ρ):Ex σ β ρ)=.go s:=rfl
def P2{s:σ}{v:ρ}:(UD s (M v):Ex σ β ρ)=.ret v:=rfl
theorem xb{step:σ->Option (Ex σ β ρ)}{x0:σ}(S:Nat->σ) (f:Nat->Option ρ) (n:Nat) (b:β)
 (e:∀i,i<n->(∀j,j<i->f j=q6)->step (S i)=M (UD (S (i+1)) (f i))) (a:(∀j,j<n->f j=q6)->step (S n)=M (.brk b)) (d:x0=S 0:=by rfl) :
 ca step x0=M (Ib b (ff f n)):=by
 have key:∀k i,i+k=n->(∀j,j<i->f j=q6)->ca step (S i)=M (Ib b (ff (λj=>f (i+j)) k)):=by
  intro k
  induction k with
  |zero=>
   intro i hi hf;rw[oac]at hi;subst hi;rw[Ob (a hf)];rfl
  |succ k g=>
   intro i hi hf;have c:=e i U hf;simp only[ff,oac]
   cases d:f i with
   |some v=>
    rw[d]at c;rw[ct c];rfl
   |none=>
    rw[d]at c;rw[Ie c,g (i+1) U λj hj=>o0]
    grind
 simp_all
theorem Uc{step:σ->Option (Ex σ β ρ)}{x0:σ}(S:Nat->σ) (n:Nat) (b:β) (hgo:∀i,i<n->step (S i)=M (.go (S (i+1)))) (hend:step (S n)=M (.brk b)) (h0:x0=S 0:=by rfl):ca step x0=M (.inl b):=by
 have key:∀k i,i+k=n->ca step (S i)=M (.inl b):=by
  intro k
  induction k with
  |zero=>simp_all[Ob]
  |succ k ih=>grind[Ie]
 simp_all
theorem bk6{l:List α}{p:α->Option Bool}(q:α->Bool) (a:∀x∈l,p x=M (q x)) (hl:l.length<4611686018427387904) :
 ca (λ(s:Int)=>if s<(a00 l:Int)then(c! l s).bind λx=>(p x).bind λc=>if c=a35 then M (l? s)else M (i! (aa .i64 (s+1)))else M (i? ())) 0
  = M (Ib () (ff (λi=>if(l[i]?.any q)=a35 then M (i:Int)else q6) l.length)):=by
 refine xb (λi=>(i:Int)) _ l.length () (λi hi _=>?_) (λ_=>?_)
 .rw[J,wa hi,a!,a _ (y! hi),a!,g! U U]
  grind[UD]
 simp
theorem Rv{l:List α}{q:α->Bool}{g:Nat->ρ}:(ff (λi=>if(l[i]?.any q)=a35 then M (g i)else q6) l.length).isSome=l.any q:=by
 rw[Bool.eq_iff_iff,Iac,Lac];constructor
 .grind[Oa]
 .rintro⟨x,hx,hq⟩;rw[←Iac,←Option.not_isNone,Bool.not_eq_true',Option.isNone_eq_false_iff,Option.isSome_iff_ne_none];intro hn;obtain⟨i,hi,rfl⟩:=H' hx
  grind[Xa]
theorem Tw{l:List α}{p:α->Option Bool}(q:α->Bool) (a:∀x∈l,p x=M (q x)) (hl:l.length<4611686018427387904) {o:Option (Unit⊕Int)}
 (ho:o=ca (λ(s:Int)=>if s<(a00 l:Int)then(c! l s).bind λx=>(p x).bind λc=>if c=a35 then M (l? s)else M (i! (aa .i64 (s+1)))else M (i? ())) 0) :
 ((o.bind λy=>match y with|.inr v=>M v|.inl _=>M (-1)).bind λx=>M (s5 (0<=x)))=M (l.any q):=by
 rw[ho,bk6 q a hl];rw[←Rv (q:=q) (g:=λi=>(i:Int))]
 cases h:ff (λi=>if(l[i]?.any q)=a35 then M (i:Int)else q6) l.length with
 |none=>simp[Ib]
 |some v=>
  grind[Ib,Oa]
end Go.Tm
set_option maxRecDepth 10000
namespace Go.Proofs.Dev
open Go Go.Tm
variable {s:ByteArray}{op:Int}
def am5(c:Int):Bool:=s5 (97<=c)&&s5 (c<=122)
def bo9(c:Int):Bool:=s5 (48<=c)&&s5 (c<=57)
def nX(c:Int):Bool:=am5 c || bo9 c || c==95
theorem QE{a b c:Int}:(b? (if a<=c then M (s5 (c<=b))else M a36) λj=>M j)=M (s5 (a<=c)&&s5 (c<=b)):=by
 grind
def BD(c:Int):eu c=M (am5 c):=QE
def HL(c:Int):Lx c=M (bo9 c):=QE
theorem CG(c:Int):wy c=M (am5 c):=QE
theorem kQ(c:Int):bB c=M (bo9 c):=QE
theorem lT(c:Int):fA c=M (nX c):=by
 grind[fA,nX,CG,kQ]
def az(s:ByteArray) (i:Nat):Bool:=if h:i<s.size then nX (s[i].toNat:Int)else a36
def tF(s:ByteArray):Bool:=(ff (λi=>if az s i=a35 then q6 else M ()) s.size).isNone
theorem XG(hs:s.size<4611686018427387904):∃n,jo s=M n/\(n=(s.size:Int)↔tF s=a35):=by
 have hstep:∀i:Nat,i<s.size->Oe s (i:Int)=M (if az s i=a35 then .go ((i+1:Nat):Int)else .brk (i:Int)):=by
  intro i hi;unfold Oe;rw[J,HR hi,a!];simp only[BD,HL,a!,az,dif_pos hi,nX]
  grind[g!]
 have w1:∀i,(if az s i=a35 then q6 else M ())=q6->az s i=a35:=λi h=>by
  simp_all
 unfold jo
 cases h:ff (λi=>if az s i=a35 then q6 else M ()) s.size with
 |none=>
  have a:=Xa.1 h;have hl:ca (Oe s) 0=M (.inl (s.size:Int)):=Uc (λi=>(i:Int)) s.size (s.size:Int)
   (λi hi=>l4) (by grind[Oe])
  rw[hl];exact⟨_,rfl,by grind[tF]⟩
 |some v=>
  obtain⟨k,a,h2,h3⟩:=Oa.1 h;have hl:ca (Oe s) 0=M (.inl (k:Int)):=Uc (λi=>(i:Int)) k (k:Int)
   (λi hi=>o0) (by
    simp_all)
  rw[hl];exact⟨_,rfl,by grind[tF]⟩
noncomputable def mK:List ByteArray:=(oi).getD []
theorem an5{p:Prop} [Decidable p] {b:Bool}:(if p then M a35 else M b)=M (decide p || b):=by
 grind
def w6{a:ByteArray}{l:List ByteArray}:((a::l).any λr=>s5 (s=r))=(s5 (s=a) || (l.any λr=>s5 (s=r))):=rfl
def av0:(([]:List ByteArray).any λr=>s5 (s=r))=a36:=rfl
theorem BZ(s:ByteArray):ug s=M (mK.any λr=>s5 (s=r)):=by
 unfold ug mK oi;simp (config := { maxSteps := 4000000 }) only[Τ,w6,av0,an5,a!,tae];simp
theorem AZ(s:ByteArray):∃b,ug s=M b:=by
 unfold ug;simp (config := { maxSteps := 4000000 }) only[an5,a!];simp
noncomputable def aD7(s:ByteArray):Bool:=(ug s).getD a36
theorem RO(s:ByteArray):ug s=M (aD7 s):=by
 obtain⟨b,h⟩:=AZ s
 grind[aD7]
noncomputable def Xn(s:ByteArray):Bool:=if h:0<s.size/\s.size<=16 then am5 (s[0].toNat:Int)&&tF s&&!(aD7 s)else a36
theorem SQ:s=n? #[]↔s.size=0:=by
 constructor
 .rintro rfl;rfl
 .intro h;obtain⟨a⟩:=s;congr 1;exact Array.eq_empty_of_size_eq_zero h
theorem jv(b:s.size<4611686018427387904):fc s=M (Xn s):=by
 obtain⟨n,hn,a⟩:=XG b;unfold fc Xn;by_cases h0:s.size=0
 .simp_all[SQ]
 .have hx:tA s 0=M (s[0].toNat:Int):=HR (i:=0) U;rw[J (by grind[SQ]),hx];simp only[a!,BD,hn,a,RO]
  grind
theorem Ur(hs:s.size<4611686018427387904):Jb s=M (Xn s):=by
 unfold Jb Xn;by_cases h:0<s.size/\s.size<=16
 .have hx:tA s 0=M (s[0].toNat:Int):=HR (i:=0) U;have a:aD7 s=mK.any λr=>s5 (s=r):=J! ((RO s).symm.trans (BZ s));rw[dif_pos h,J,J,hx,a];simp only[a!,CG]
  cases hl:am5 (s[0].toNat:Int)with
  |false=>simp
  |true=>
   have b:ca (fh s) 0=M (Ib () (ff (λi=>if az s i=a35 then q6 else M a36) s.size)):=
    xb (λi=>(i:Int)) _ s.size () (λi hi _=>by
     unfold fh;rw[J,HR hi];simp only[a!,lT,az,dif_pos hi];rw[g! U U];cases nX (s[i].toNat:Int)<;>rfl) (λ_=>by grind[fh])
   have e:oi=M mK:=by grind[mK,oi]
   have hlen:mK.length=55:=by unfold mK oi;rfl
   have c:ca (dh s mK) 0=M (Ib () (ff (λi=>if(mK[i]?.any λr=>s5 (s=r))=a35 then M a36 else q6) mK.length)):=
    xb (λi=>(i:Int)) _ mK.length () (λi hi _=>by
     unfold dh;rw[J,wa hi,n! hi];simp only[a!,qac,w2];rw[g! U U];by_cases he:s=mK[i]
     .rw[J he.symm,J he];rfl
     .rw[p5 (λh=>he h.symm),p5 he];rfl) (λ_=>by grind[dh])
   simp only[γ,t!,s7,b,e,a!];have ha:=Rv (l:=mK) (q:=λr=>s5 (s=r)) (g:=λ_=>a36);have hw:tF s=(ff (λi=>if az s i=a35 then q6 else M a36) s.size).isNone:=by
    unfold tF
    cases d:ff (λi=>if az s i=a35 then q6 else M ()) s.size with
    |none=>
     grind[Xa]
    |some v=>
     obtain⟨k,k1,k2,k3⟩:=Oa.1 d
     cases h2:ff (λi=>if az s i=a35 then q6 else M a36) s.size with
     |some _=>rfl
     |none=>
      grind[Xa]
   rw[hw,←ha]
   cases d:ff (λi=>if az s i=a35 then q6 else M a36) s.size with
   |some v=>
    grind[Ib,Oa]
   |none=>
    simp only[Ib,c,a!,Option.isNone_none,Μ]
    grind[Oa]
 grind
def la(t:ej) (e:List na):Bool:=
 if t.a=6 then s5 (0<=t.g)&&s5 (t.g<(a00 e:Int))else s5 (1<=t.a)&&s5 (t.a<=5)&&(t.g==0)
noncomputable def vtX(t0:ej) (t1:List na):Option Bool:=
 if t0.a=6 then
  b? (α:=Bool) (
   if 0<=t0.g then
    M (s5 (t0.g<(a00 t1:Int)))
   else
   M a36) λa=>
  M a
 else
 b? (α:=Bool) (
  if 1<=t0.a then
   if t0.a<=5 then
    M (t0.g==0)
   else
   M a36
  else
  M a36) λb=>
 M b
theorem aT8(t:ej) (e:List na):vtX t e=M (la t e):=by
 grind[vtX,la]
theorem qb(t:ej) (e:List na):zc t e=M (la t e):=aT8 t e
theorem Ra(t:ej) (e:List na):kd t e=M (la t e):=by
 rw[←aT8]
 grind[kd,vtX]
theorem I6(t:ej) (e:List na):Tc t e=tp t e:=by
 grind[Tc,tp,Ra,qb]
theorem J6(t:ej) (e:List na):∃p,Tc t e=M p:=by
 unfold Tc;rw[Ra,a!]
 cases h:la t e with
 |false=>simp
 |true=>
  simp only[O!,s7]
  repeat' split
  all_goals first|exact⟨_,rfl⟩|skip
  have a:t.a=6:=by
   grind[la]
  unfold la at h;rw[J a]at h;simp at h;rw[Nh h.1 h.2];simp
noncomputable def RT(t:ej) (e:List na):Int×Int:=(Tc t e).getD (0,0)
theorem il(t:ej) (e:List na):Tc t e=M (RT t e):=by
 obtain⟨p,hp⟩:=J6 t e
 grind[RT]
theorem TE(t:ej) (e:List na):tp t e=M (RT t e):=by rw[←I6,il]
noncomputable def uV(n:Int) (t:ej) (e:List na):Bool:=s5 ((RT t e).1<=n)&&s5 (n<=(RT t e).2)
theorem yO(n:Int) (t:ej) (e:List na):aw n t e=M (uV n t e):=by
 grind[aw,uV,TE]
def vrB(r:hO):Bool:=s5 (0<=r.j)&&(s5 (r.j<=r.To)&&s5 (r.To<=109573))
theorem Iv(r:hO):ie r=M (vrB r):=by
 grind[ie,vrB]
theorem Px(r:hO):Wf r=M (vrB r):=by
 grind[Wf,vrB]
def uD(a b:se):Bool:=vrB a.aa&&vrB b.aa&&s5 (max a.aa.j b.aa.j<min a.aa.To b.aa.To)&&s5 (max a.Lo b.Lo<min a.Hi b.Hi)
theorem dK(a b:se):Yr a b=M (uD a b):=by
 unfold Yr Eu uD;simp only[Px,a!]
 grind
theorem rK(a b:se):Ms a b=M (uD a b):=by
 unfold Ms Bn Dd uD;simp only[Iv,a!];cases vrB a.aa<;>cases vrB b.aa<;>simp only[t!,s7,w3,a!,iac,γ,Iad,Μ,mae]
 all_goals grind
noncomputable def xK(x:se) (t:oe) (e:List na):Bool:=
 !(vrB x.aa) || s5 (x.aa.j=x.aa.To) || s5 (x.Hi<=x.Lo) || !(uV x.Lo t.af e) || !(uV (aa .i64 (x.Hi-1)) t.af e) || !(uV x.N t.Value e)
theorem lQ(x:se) (t:oe) (e:List na):xy x t e=M (xK x t e):=by
 unfold xy xK;simp only[Px,yO,a!]
 grind
noncomputable def nK(t:oe) (e:List na) (i:Nat):Option (Int×Int):=
 match t.Rows[i]? with
 |some x=>if xK x t e=a35 then M ((i:Int),3)else if((t.Rows.take i).any λy=>uD y x)=a35 then M ((i:Int),11)else q6
 |none=>q6
noncomputable def Tu(t:oe) (e:List na):Int×Int:=
 if 64<a00 t.Rows then(64,4)else if(la t.af e&&la t.Value e)=a36 then(-1,8)else(ff (nK t e) t.Rows.length).getD (0,0)
theorem JY{l:List se}{x:se}(hl:l.length<4611686018427387904):∃p,vc l (λy=>Ze y x)=M p/\p.2=l.any λy=>uD y x:=by
 have a:ca (Xb l (λy=>Ze y x)) 0=M (Ib () (ff (λi=>if(l[i]?.any λy=>uD y x)=a35 then M ((i:Int),a35)else q6) l.length)):=
  xb (λi=>(i:Int)) _ l.length () (λi hi _=>by
   unfold Xb;rw[J,wa hi,n! hi]
   grind[Ze,UD,rK,pa]) (λ_=>by grind[Xb])
 unfold vc;rw[a,←Rv (q:=λy=>uD y x) (g:=λi=>((i:Int),a35)),a!]
 cases h:ff (λi=>if(l[i]?.any λy=>uD y x)=a35 then M ((i:Int),a35)else q6) l.length with
 |none=>exact⟨_,rfl,rfl⟩
 |some v=>
  obtain⟨k,h1,h2,-⟩:=Oa.1 h;refine⟨_,rfl,?_⟩
  grind
theorem qK(t:oe) (e:List na):Ls t e=M (Tu t e):=by
 unfold Ls Tu;by_cases a:64<a00 t.Rows
 .grind
 .rw[p5,p5 a];simp only[Ra,il,a!];have hl:ca (Xm t (RT t.af e) (RT t.Value e)) 0=M (Ib () (ff (nK t e) t.Rows.length)):=
   xb (λi=>(i:Int)) _ t.Rows.length () (λi hi _=>by
    unfold Xm nK;rw[J,wa hi,n! hi];simp only[a!,Iv];rw[mB U,pa U];obtain⟨p,hp,hp2⟩:=JY (l:=t.Rows.take i) (x:=t.Rows[i]) o0
    grind[xK,uV,UD]) (λ_=>by grind[Xm])
  rw[hl];cases la t.af e<;>cases la t.Value e<;>simp only[t!,s7,w3,a!,iac,γ,Iad,Μ,mae,O!];cases ff (nK t e) t.Rows.length<;>rfl
theorem cK(t:oe) (e:List na):Xr t e=M (Tu t e):=by
 unfold Xr Tu;by_cases a:64<a00 t.Rows
 .grind
 .rw[p5,p5 a];simp only[qb,a!];have hl:ca (xm t e) 0=M (Ib () (ff (nK t e) t.Rows.length)):=
   xb (λi=>(i:Int)) _ t.Rows.length () (λi hi _=>by
    have b:ca (vm t (i:Int) t.Rows[i]) 0=M (Ib () (ff (λk=>if((t.Rows.take i)[k]?.any λy=>uD y t.Rows[i])=a35 then M (l? ((i:Int),11))else q6) (t.Rows.take i).length)):=
     xb (λi=>(i:Int)) _ (t.Rows.take i).length () (λk hk _=>by
      have hk':k<i:=o0
      unfold vm;rw[J,wa U,n! hk]
      grind[UD,dK,pa]) (λ_=>by
       grind[vm])
    unfold xm nK;rw[J,wa hi,n! hi];simp only[a!,lQ,b];rw[pa U,←Rv (q:=λy=>uD y t.Rows[i]) (g:=λk=>(l? ((i:Int),11):Ex Int Unit (Int×Int)))];cases xK t.Rows[i] t e
    .simp only[t!,s7]
     cases h:ff (λk=>if((t.Rows.take i)[k]?.any λy=>uD y t.Rows[i])=a35 then M (l? ((i:Int),11):Ex Int Unit (Int×Int))else q6) (t.Rows.take i).length with
     |none=>rfl
     |some v=>
      obtain⟨k,h1,h2,-⟩:=Oa.1 h;split at h2
      .injection h2 with h2;subst h2;rfl
      simp_all
    .rfl) (λ_=>by grind[xm])
  rw[hl];cases la t.af e<;>cases la t.Value e<;>simp only[t!,s7,w3,a!,iac,γ,Iad,Μ,mae,O!];cases ff (nK t e) t.Rows.length<;>rfl
def Fb(op:Int):Int:=
 if(1<=op/\op<=9)\/(35<=op/\op<=39)then 0
 else if op=10\/op=25\/(31<=op/\op<=34)then 1
 else if op=26 then 3
 else if 11<=op/\op<=30 then 2 else -1
theorem rC(h:1<=op/\op<=39):op=1\/op=2\/op=3\/op=4\/op=5\/op=6\/op=7\/op=8\/op=9\/op=10\/op=11\/op=12\/op=13\/op=14\/op=15\/op=16\/op=17\/op=18\/op=19\/op=20\/op=21\/op=22\/op=23\/op=24\/op=25\/op=26\/op=27\/op=28\/op=29\/op=30\/op=31\/op=32\/op=33\/op=34\/op=35\/op=36\/op=37\/op=38\/op=39:=U
theorem vF(h:¬(1<=op/\op<=39)):Fb op = -1:=by
 grind[Fb]
theorem lp(op:Int):cn op=M (Fb op):=by
 by_cases h:1<=op/\op<=39
 .rcases rC h with h|h|h|h|h|h|h|h|h|h|h|h|h|h|h|h|h|h|h|h|h|h|h|h|h|h|h|h|h|h|h|h|h|h|h|h|h|h|h<;>subst h<;>simp[cn,Fb]
 .rw[vF h];unfold cn;have hn:∀k:Int,1<=k->k<=39->¬op=k:=λk h1 h2 he=>h U;simp[hn]
theorem Qx(op:Int):Wo op=M (Fb op):=by
 grind[Wo,Fb]
def Vc(op:Int):Bool:=s5 ((1<=op/\op<=8)\/(14<=op/\op<=16)\/(33<=op/\op<=34)\/(36<=op/\op<=39))
theorem Ka(h:1<=op/\op<=39):Jr op=M (Vc op):=by
 rcases rC h with h|h|h|h|h|h|h|h|h|h|h|h|h|h|h|h|h|h|h|h|h|h|h|h|h|h|h|h|h|h|h|h|h|h|h|h|h|h|h<;>subst h<;>simp[Jr,Vc]
theorem Ac(h:1<=op/\op<=39):Gq op=M (Vc op):=by
 rcases rC h with h|h|h|h|h|h|h|h|h|h|h|h|h|h|h|h|h|h|h|h|h|h|h|h|h|h|h|h|h|h|h|h|h|h|h|h|h|h|h<;>subst h<;>simp[Gq,Vc]
def qC(k:Int):Bool:=k==2 || k==3 || k==4
theorem cj(k:Int):Mh k=M (qC k):=by
 grind[Mh,qC]
theorem jA(k:Int):um k=M (qC k):=by
 grind[um,qC]
theorem HD(k:Int):nn k=M (qC k || k==5):=by
 grind[nn,jA]
noncomputable def Ya(n:fr) (ops:List ej) (s:om):Option (ej×Int):=
 b? (α:=Bool) (if¬n.N=0 then(Jr n.Op).bind λx=>M (!x)else M a36) λj=>if j=a35 then M ((ej.mk 0 0),2)else va n ops s
def Zb(n:fr):Prop:=-9223372036854775808<=n.N/\n.N<=9223372036854775807
theorem KT{n:Int}{k:Int}(hk:1<=k) (h:-9223372036854775808<=n/\n<=9223372036854775807):aa .i64 (s? n k)=s? n k:=by
 have h1:(s? n k).natAbs<=n.natAbs:=by
  rw[Mae];exact Nat.div_le_self _ _
 by_cases hn:n = -9223372036854775808
 .by_cases a:k=1
  .subst a;subst hn;rfl
  .have:(s? n k).natAbs<n.natAbs:=by
    rw[Mae];exact Nat.div_lt_self U U
   grind[g!]
 grind[g!]
end Go.Proofs.Dev
set_option maxHeartbeats 1000000
namespace Go.Proofs.Dev
open Go Go.Tm
variable {t a b c t':ej}{k N op f:Int}{n:fr}{s:om}{α:Type}{x y:α}{l:List α}{u:Bool}{ops:List ej}{i:Nat}{p:List Int}
theorem eJ{e:List na}(h:la t e=a35) (hk:t.a≠6):t.g=0:=by
 simp_all[la]
theorem XZ{e:List na}(h1:1<=k) (h2:k<=5):la ⟨k,0⟩ e=a35:=by
 grind[la]
theorem ZL{e:List na}:la ⟨1,0⟩ e=a35:=XZ U U
theorem dJ{e:List na}:la ⟨2,0⟩ e=a35:=XZ U U
theorem kX{e:List na}:la ⟨3,0⟩ e=a35:=XZ U U
theorem ab5{e:List na}:la ⟨4,0⟩ e=a35:=XZ U U
theorem bu9{e:List na}:la ⟨5,0⟩ e=a35:=XZ U U
def iJ(n:fr) (ops:List ej) (s:om):Prop:=
 Ya n ops s=db n ops s/\∃r,db n ops s=M r/\(r.2=0->la r.1 s.r=a35)
theorem ak6(hk:1<=k/\k<=5) (hn:n.Op=k):iJ n [] s:=by
 have hu:=Ka (op:=n.Op) U;have hm:=Ac (op:=n.Op) U;have j:Vc n.Op=a35:=by grind[Vc]
 have hv:la ⟨n.Op,0⟩ s.r=a35:=XZ U U;have q:db n [] s=M (if(RT ⟨n.Op,0⟩ s.r).1<=n.N/\n.N<=(RT ⟨n.Op,0⟩ s.r).2 then(⟨n.Op,0⟩,0)else(⟨0,0⟩,3)):=by
  unfold db sb Kc mn Kb;simp only[TE,hm,j,a!];have l:¬n.Op=6:=U
  have m:¬n.Op=7:=U
  have o:¬n.Op=8:=U
  have p:¬n.Op=9:=U
  have a:¬n.Op=33:=U
  have b:¬n.Op=34:=U
  have c:¬n.Op=35:=U
  have d:¬n.Op=36:=U
  have e:¬n.Op=37:=U
  have f:¬n.Op=38:=U
  have g:¬n.Op=39:=U
  have i:(if n.Op=1 then M a35 else if n.Op=2 then M a35 else if n.Op=3 then M a35 else if n.Op=4 then M a35 else M (n.Op==5))=M a35:=by
   rcases(by omega:n.Op=1\/n.Op=2\/n.Op=3\/n.Op=4\/n.Op=5)with h|h|h|h|h<;>simp[h]
  simp only[i,l,m,o,p,a,b,c,d,e,f,g,qb,hv,a!,w3,s7,QE]
  grind
 have hI:Ya n [] s=M (if(RT ⟨n.Op,0⟩ s.r).1<=n.N/\n.N<=(RT ⟨n.Op,0⟩ s.r).2 then(⟨n.Op,0⟩,0)else(⟨0,0⟩,3)):=by
  grind[we,RT,va,Ya,il]
 refine⟨l4,_,q,?_⟩
 grind
theorem iC:(if¬N=0 then(M a35).bind λx=>M (!x)else M a36)=M a36:=l5
theorem PK:(if¬N=0 then(M a36).bind λx=>M (!x)else M a36)=M (!(N==0)):=by
 grind
theorem GA{Q:α->Prop}:(∃r,M x=M r/\Q r)=Q x:=l5
theorem XA(d:α) (h0:0<=N) (h1:N<(a00 l:Int)):c! l N=M ((l[N.toNat]?).getD d):=by
 grind[Nh]
theorem bg1(hN:Zb ⟨6,N⟩):iJ ⟨6,N⟩ [] s:=by
 have w:=KT (n:=N) (k:=16) U hN;have hu:=Ka (op:=6) U;have hm:=Ac (op:=6) U;have a:Vc 6=a35:=rfl;unfold iJ Ya va Yt db sb Kc mn;simp only[w,hu,hm,a,qb,iC];by_cases b:0<=N
 .have hd:0<=s? N 16:=Aad b U;by_cases c:s? N 16<(a00 s.r:Int)
  .rw[XA ⟨xad,[]⟩ hd c];have hv:la ⟨6,s? N 16⟩ s.r=a35:=by grind[la]
   generalize (s.r[(s? N 16).toNat]?).getD ⟨xad,[]⟩=m;have e1:¬N<0:=U
   have e2:¬(a00 s.r:Int)<=s? N 16:=U
   by_cases h2:v? N 16<(a00 m.s:Int)
   .have e3:¬(a00 m.s:Int)<=v? N 16:=U
    simp[b,c,h2,hv,e1,e2,e3,GA,-Prod.exists]
   grind
  grind
 simp_all
theorem bg0:iJ ⟨7,N⟩ [] s:=by
 have hu:=Ka (op:=7) U;have hm:=Ac (op:=7) U;have a:Vc 7=a35:=rfl;unfold iJ Ya va xc db sb Kc mn;simp only[hu,hm,a,qb,Ra,iC];by_cases b:0<=N
 .have e1:¬N<0:=U
  by_cases c:N<(a00 s.w:Int)
  .rw[XA ⟨0,0⟩ b c];generalize (s.w[N.toNat]?).getD ⟨0,0⟩=t;obtain⟨e,d⟩:=t;have e2:¬(a00 s.w:Int)<=N:=U
   cases hv:la ⟨e,d⟩ s.r<;>simp[b,c,hv,e1,e2,GA,-Prod.exists]
  simp_all
 grind
theorem bf9:iJ ⟨8,N⟩ [] s:=by
 have hu:=Ka (op:=8) U;have hm:=Ac (op:=8) U;have a:Vc 8=a35:=rfl;unfold iJ Ya va xc db sb Kc mn;simp only[hu,hm,a,qb,Ra,iC];by_cases b:0<=N
 .have e1:¬N<0:=U
  by_cases c:N<(a00 s.d:Int)
  .rw[XA ⟨0,0⟩ b c];generalize (s.d[N.toNat]?).getD ⟨0,0⟩=t;obtain⟨e,d⟩:=t;have e2:¬(a00 s.d:Int)<=N:=U
   cases hv:la ⟨e,d⟩ s.r<;>simp[b,c,hv,e1,e2,GA,-Prod.exists]
  simp_all
 grind
theorem bf8:iJ ⟨9,N⟩ [] s:=by
 have hu:=Ka (op:=9) U;have hm:=Ac (op:=9) U;have a:Vc 9=a36:=rfl;unfold iJ Ya va db sb Kc mn Kb;simp only[hu,hm,a,qb,PK];cases N==0<;>simp[bu9,GA,-Prod.exists]
theorem aH7:iJ ⟨35,N⟩ [] s:=by
 have hu:=Ka (op:=35) U;have hm:=Ac (op:=35) U;have a:Vc 35=a36:=rfl;unfold iJ Ya va Mg db sb Kc mn Kb;simp only[hu,hm,a,qb,PK];cases hm:s.a6<;>cases N==0<;>simp[hm,dJ,GA,-Prod.exists]
theorem ak5(h:36<=op/\op<=39):iJ ⟨op,N⟩ [] s:=by
 have hu:=Ka (op:=op) U;have hm:=Ac (op:=op) U;have d:Vc op=a35:=by grind[Vc]
 unfold iJ Ya va Mg xc db sb Kc mn;simp only[hu,hm,d,qb,Ra,cj,HD,iC];cases b:s.a6
 .rcases(by omega:op=36\/op=37\/op=38\/op=39)with h|h|h|h<;>subst h<;>simp[b,GA,-Prod.exists]
 .by_cases a:0<=N
  .have e1:¬N<0:=U
   by_cases c:N<(a00 s.ay:Int)
   .rw[XA ⟨0,0⟩ a c];generalize (s.ay[N.toNat]?).getD ⟨0,0⟩=t;obtain⟨e,g⟩:=t;have e2:¬(a00 s.ay:Int)<=N:=U
    cases hv:la ⟨e,g⟩ s.r
    .rcases(by omega:op=36\/op=37\/op=38\/op=39)with h|h|h|h<;>subst h<;>simp[b,a,c,hv,e1,e2,GA,-Prod.exists]
    .rcases(by omega:op=36\/op=37\/op=38\/op=39)with h|h|h|h<;>subst h<;>simp only[b,a,c,hv,e1,e2,a!,w3,s7,not_true_eq_false,R1,D2,G1,t!,O!,t?,beq_self_eq_true,E?]
     .by_cases f:e=2<;>by_cases k3:e=3<;>simp[f,k3,hv,GA,-Prod.exists]<;>simp_all
     all_goals grind
   .have e2:(a00 s.ay:Int)<=N:=U
    rcases(by omega:op=36\/op=37\/op=38\/op=39)with h|h|h|h<;>subst h<;>simp[b,a,c,e1,e2,GA,-Prod.exists]
  .have e1:N<0:=U
   rcases(by omega:op=36\/op=37\/op=38\/op=39)with h|h|h|h<;>subst h<;>simp[b,a,e1,GA,-Prod.exists]
theorem Md:c! (x::l) 0=M x:=rfl
theorem fI:c! (x::y::l) 1=M y:=rfl
theorem SS{z:α}:c! (x::y::z::l) 2=M z:=rfl
theorem ak4(d:op=10\/op=25\/op=31\/op=32) (ha:la a s.r=a35):iJ ⟨op,N⟩ [a] s:=by
 have hu:=Ka (op:=op) U;have hm:=Ac (op:=op) U;have e:Vc op=a36:=by grind[Vc]
 unfold iJ Ya va Ja db sb Kc Ap Kb;simp only[hu,hm,e,PK,cj,jA];obtain⟨c,ae⟩:=a;rcases d with h|h|h|h<;>subst h<;>cases N==0
 .simp
 .cases hn:qC c<;>simp[Md,hn,ha,GA,-Prod.exists]
 .simp
 .by_cases b:c=1
  .subst b;have:=eJ ha l5
   simp_all[Md]
  simp_all[Md]
 .simp
 .by_cases b:c=5<;>simp[Md,b,dJ,GA,-Prod.exists]
 .simp
 .by_cases b:c=5<;>simp[Md,b,dJ,GA,-Prod.exists]
theorem aH9(ha:la a s.r=a35):iJ ⟨33,N⟩ [a] s:=by
 have hu:=Ka (op:=33) U;have hm:=Ac (op:=33) U;have d:Vc 33=a35:=rfl;unfold iJ Ya va lk db sb Kc Ap;simp only[hu,hm,d,qb,Ra,iC];by_cases b:0<=N
 .have e1:¬N<0:=U
  by_cases c:N<(a00 s.Tables:Int)
  .obtain⟨t,ht⟩:∃t,c! s.Tables N=M t:=⟨_,Nh b c⟩;have e2:¬(a00 s.Tables:Int)<=N:=U
   cases hk:la t.af s.r
   .simp[Md,ht,b,c,e1,e2,hk,GA,-Prod.exists]
   .cases hv:la t.Value s.r
    .simp[Md,ht,b,c,e1,e2,hk,hv,GA,-Prod.exists]
    .by_cases e:a.a=t.af.a<;>by_cases f:a.g=t.af.g<;>simp[Md,ht,b,c,e1,e2,hk,hv,e,f,GA,-Prod.exists]
  simp_all[Md]
 .have e1:N<0:=U
  have e3:¬N<(a00 s.Tables:Int)\/N<(a00 s.Tables:Int):=U
  simp[Md,b,e1,GA,-Prod.exists]
theorem aH8(hN:Zb ⟨34,N⟩) (ha:la a s.r=a35):iJ ⟨34,N⟩ [a] s:=by
 have hu:=Ka (op:=34) U;have hm:=Ac (op:=34) U;have f:Vc 34=a35:=rfl;have w:=KT (n:=N) (k:=8) U hN;unfold iJ Ya va lk fi db sb Kc Ap Kb;simp only[hu,hm,f,qb,Ra,iC,w];by_cases c:0<=N
 .have e1:¬N<0:=U
  have hd:0<=s? N 8:=Aad c U;have b:0<=v? N 8:=eae _ c;have e3:¬s? N 8<0:=U
  by_cases p:v? N 8<=5
  .by_cases l:s? N 8<(a00 s.Tables:Int)
   .obtain⟨t,ht⟩:∃t,c! s.Tables (s? N 8)=M t:=⟨_,Nh hd l⟩;have e2:¬(a00 s.Tables:Int)<=s? N 8:=U
    obtain⟨_,⟨i,h⟩,⟨m,q⟩,_⟩:=t;obtain⟨j,o⟩:=a;simp only[Md,ht,c,l,e1,e2,e3,b,p,a!,w3,s7,not_true_eq_false,R1,D2,G1,t!,O!,t?,beq_self_eq_true,E?,γ,iac];by_cases d:i=3
    .subst d;by_cases e:h=0
     .subst e;rw[show la ⟨3,0⟩ s.r=a35 from kX];by_cases g:m=4
      .subst g
       grind[la]
      grind[la]
     simp_all[la]
    .cases la ⟨i,h⟩ s.r<;>cases la ⟨m,q⟩ s.r<;>by_cases ha3:j=3<;>by_cases hak:j=i<;>by_cases hae:o=h<;>simp_all[GA,-Prod.exists]
   simp_all[Md]
  simp_all[Md]
 .have e1:N<0:=U
  simp[Md,c,e1,GA,-Prod.exists]
theorem aI0(hb:la b s.r=a35):iJ ⟨26,N⟩ [a,b,c] s:=by
 have hu:=Ka (op:=26) U;have hm:=Ac (op:=26) U;have d:Vc 26=a36:=rfl;unfold iJ Ya va Ja db sb Kc;simp only[hu,hm,d,PK];obtain⟨bk,be⟩:=b;cases N==0
 .simp
 .by_cases e:a.a=1<;>by_cases f:bk=c.a<;>by_cases k3:be=c.g<;>simp[Md,fI,SS,e,f,k3,GA,-Prod.exists]
  simp_all
theorem cs0(hm:Gq op=M u) (hr:sb ⟨op,N⟩ s=M a35) (hf:Kc ⟨op,N⟩ s=M a35) {ok:Bool}
 (hd:yp op a b=M (t,ok)) (hu:u=a35\/N=0):db ⟨op,N⟩ [a,b] s=M (if ok=a35 then(t,0)else(⟨0,0⟩,8)):=by
 unfold db;simp only[hm,hr,hf,Md,fI];rcases hu with rfl|rfl<;>cases ok<;>simp[hd]
theorem cg7(hm:Jr op=M u) (h1:va ⟨op,N⟩ [a,b] s=(Ja op [a,b]).bind λx=>if x.2=a36 then M (⟨0,0⟩,8)else M (x.1,0)) {ok:Bool}
 (hd:Ja op [a,b]=M (t,ok)) (hu:u=a35\/N=0):Ya ⟨op,N⟩ [a,b] s=M (if ok=a35 then(t,0)else(⟨0,0⟩,8)):=by
 unfold Ya
 grind
theorem aZ8(hop:(11<=op/\op<=24)\/(27<=op/\op<=30)) {ok:Bool}(f:Ja op [a,b]=M (t',ok)) (g:yp op a b=M (t,ok)) (ht:ok=a35->t'=t/\la t s.r=a35) :
 iJ ⟨op,N⟩ [a,b] s:=by
 have hu:=Ka (op:=op) U;have hm:=Ac (op:=op) U;have hr:(14<=op/\op<=16)/\sb ⟨op,N⟩ s=M (s5 (0<=N)&&s5 (N<=5))/\va ⟨op,N⟩ [a,b] s=(if(s5 (0<=N)&&s5 (N<=5))=a35 then(Ja op [a,b]).bind λx=>if x.2=a36 then M (⟨0,0⟩,8)else M (x.1,0)else M (⟨0,0⟩,3))\/
  ¬(14<=op/\op<=16)/\sb ⟨op,N⟩ s=M a35/\va ⟨op,N⟩ [a,b] s=((Ja op [a,b]).bind λx=>if x.2=a36 then M (⟨0,0⟩,8)else M (x.1,0)):=by
  clear f g ht hu hm;by_cases h:14<=op/\op<=16
  .refine .inl ⟨h,?_,?_⟩
   .grind[sb]
   .unfold va fi;simp only[QE];rcases(by omega:op=14\/op=15\/op=16)with h|h|h<;>subst h<;>by_cases g1:0<=N<;>by_cases g2:N<=5<;>simp[g1,g2]
  .refine .inr ⟨h,?_,?_⟩
   .unfold sb;rcases(by omega:op=11\/op=12\/op=13\/op=17\/op=18\/op=19\/op=20\/op=21\/op=22\/op=23\/op=24\/op=27\/op=28\/op=29\/op=30)with h|h|h|h|h|h|h|h|h|h|h|h|h|h|h<;>subst h<;>simp
   .unfold va;rcases(by omega:op=11\/op=12\/op=13\/op=17\/op=18\/op=19\/op=20\/op=21\/op=22\/op=23\/op=24\/op=27\/op=28\/op=29\/op=30)with h|h|h|h|h|h|h|h|h|h|h|h|h|h|h<;>subst h<;>simp
 have hf:Kc ⟨op,N⟩ s=M a35:=by
  unfold Kc;rcases(by omega:op=11\/op=12\/op=13\/op=14\/op=15\/op=16\/op=17\/op=18\/op=19\/op=20\/op=21\/op=22\/op=23\/op=24\/op=27\/op=28\/op=29\/op=30)with h|h|h|h|h|h|h|h|h|h|h|h|h|h|h|h|h|h<;>subst h<;>simp
 have fin:∀(e:Vc op=a35\/N=0),sb ⟨op,N⟩ s=M a35->va ⟨op,N⟩ [a,b] s=((Ja op [a,b]).bind λx=>if x.2=a36 then M (⟨0,0⟩,8)else M (x.1,0))->iJ ⟨op,N⟩ [a,b] s:=by
  intro e c h2;unfold iJ;rw[cs0 hm c hf g e,cg7 hu h2 f e]
  grind
 rcases hr with⟨h,c,h2⟩|⟨h,c,h2⟩
 .have d:Vc op=a35:=by grind[Vc]
  by_cases hN:(s5 (0<=N)&&s5 (N<=5))=a35
  .simp_all
  .rw[Kac]at hN;rw[hN]at c;rw[hN,p5 l5]at h2;unfold iJ Ya db
   simp_all
 .have d:Vc op=a36:=by grind[Vc]
  by_cases hN:N=0
  .simp_all
  .unfold iJ Ya db
   simp_all
theorem ak2(hop:(11<=op/\op<=24)\/(27<=op/\op<=30)) (ha:la a s.r=a35):iJ ⟨op,N⟩ [a,b] s:=by
 have i:∀k,1<=k->k<=5->a.a=k->a.g=0:=λk g h2 h=>eJ ha U;obtain⟨d,f⟩:=a;obtain⟨bk,be⟩:=b;simp only at i;have hr:∃t t' ok,Ja op [⟨d,f⟩,⟨bk,be⟩]=M (t',ok)/\yp op ⟨d,f⟩ ⟨bk,be⟩=M (t,ok)/\(ok=a35->t'=t/\la t s.r=a35):=by
  unfold Ja yp Tn wz Kb;simp only[Md,fI,cj,jA,HD];rcases(by omega:op=11\/op=12\/op=13\/op=14\/op=15\/op=16\/op=17\/op=18\/op=19\/op=20\/op=21\/op=22\/op=23\/op=24\/op=27\/op=28\/op=29\/op=30)with h|h|h|h|h|h|h|h|h|h|h|h|h|h|h|h|h|h<;>subst h
  .by_cases c:d=bk/\f=be
   .cases hn:qC d<;>simp[c,hn,ha]
    all_goals grind
   .simp[c]
  .by_cases c:d=bk/\f=be
   .cases hn:qC d<;>simp[c,hn,ha]
    all_goals grind
   .simp[c]
  .by_cases c:bk=2<;>by_cases e:d=2<;>by_cases k3:d=3<;>simp[c,e,k3,dJ,kX]
  .by_cases c:bk=4<;>by_cases e:d=3<;>by_cases k3:d=4<;>simp[c,e,k3,ab5,kX]
  .by_cases c:bk=2<;>by_cases e:d=2<;>by_cases k3:d=3<;>by_cases k4:bk=3<;>simp[c,e,k3,k4,dJ,kX,ab5]
   all_goals simp_all
  .by_cases c:d=3<;>by_cases e:bk=3<;>simp[c,e]
   simp_all
  .by_cases c:d=bk/\f=be
   .cases hn:qC d<;>by_cases k5:d=5<;>simp[c,hn,k5,ha]
    all_goals grind
   .simp[c]
  .by_cases c:d=bk/\f=be
   .cases hn:qC d<;>by_cases k5:d=5<;>simp[c,hn,k5,ha]
    all_goals grind
   .simp[c]
  .by_cases c:d=bk<;>by_cases e:f=be<;>simp[c,e,ZL]
  .by_cases c:d=bk<;>by_cases e:f=be<;>simp[c,e,ZL]
  .by_cases c:d=bk/\f=be
   .cases hn:qC d<;>by_cases k5:d=5<;>simp[c,hn,k5,ZL]
    all_goals grind[ZL]
   .simp[c]
  .by_cases c:d=bk/\f=be
   .cases hn:qC d<;>by_cases k5:d=5<;>simp[c,hn,k5,ZL]
    all_goals grind[ZL]
   .simp[c]
  .by_cases c:d=1<;>by_cases e:bk=1<;>simp[c,e]
   grind
  .by_cases c:d=1<;>by_cases e:bk=1<;>simp[c,e]
   grind
  .by_cases c:d=5<;>by_cases e:bk=2<;>simp[c,e]
   simp_all
  .by_cases c:d=5<;>by_cases e:bk=2<;>simp[c,e]
   simp_all
  .by_cases c:d=5<;>by_cases e:bk=5<;>simp[c,e,dJ]
  .by_cases c:d=5<;>by_cases e:bk=5<;>simp[c,e,dJ]
 obtain⟨t,t',ok,g,h2,h3⟩:=hr
 grind[aZ8]
theorem aH5(e:1<=n.Op/\n.Op<=39) (hN:Zb n) (d:(a00 ops:Int)=Fb n.Op) (hv:∀t∈ops,la t s.r=a35):iJ n ops s:=by
 obtain⟨op,N⟩:=n;simp only at e d;unfold Fb at d;by_cases f:(1<=op/\op<=9)\/(35<=op/\op<=39)
 .rw[J f]at d;obtain rfl:ops=[]:=Ε U;rcases(by omega:(1<=op/\op<=5)\/op=6\/op=7\/op=8\/op=9\/op=35\/(36<=op/\op<=39))with h|h|h|h|h|h|h
  .exact ak6 h rfl
  all_goals grind[bg1,bg0,bf9,bf8,aH7,ak5]
 rw[p5 f]at d;by_cases g:op=10\/op=25\/(31<=op/\op<=34)
 .rw[J g]at d;obtain⟨a,rfl⟩:∃a,ops=[a]:=by
   match ops,d with
   |[a],_=>simp
  have ha:=hv a l5;rcases(by omega:(op=10\/op=25\/op=31\/op=32)\/op=33\/op=34)with h|h|h
  all_goals grind[ak4,aH9,aH8]
 rw[p5 g]at d;by_cases h2:op=26
 .rw[J h2]at d;obtain⟨a,b,c,rfl⟩:∃a b c,ops=[a,b,c]:=by
   match ops,d with
   |[a,b,c],_=>simp
  grind[aI0]
 rw[p5 h2,J]at d;obtain⟨a,b,rfl⟩:∃a b,ops=[a,b]:=by
  match ops,d with
  |[a,b],_=>simp
 grind[ak2]
def pd(e:List fr) (i:Nat):fr:=(e[i]?).getD ⟨0,0⟩
theorem Hn{e:List fr}(h:i<a00 e):e[i]=pd e i:=by
 grind[pd]
def Ki(e:List fr):Nat->List Int×List Int
 |0=>([],[])
 |i+1=>
  let p:=Ki e i
  let a:=(Fb (pd e i).Op).toNat
  let f:=if 0<a then(p.2[a00 p.2-a]?).getD 0 else(i:Int)
  (p.1++[f],p.2.take (a00 p.2-a)++[f])
theorem UI(e:List fr):∀i,(Ki e i).1.length=i
 |0=>rfl
 |i+1=>by simp[Ki,UI e i]
def xD(e:List fr) (i:Nat):Option (List Int×Int×Int):=
 if Fb (pd e i).Op<0 then M ([],(i:Int),2)
 else if((Ki e i).2.length:Int)<Fb (pd e i).Op then M ([],(i:Int),5)
 else if 12<(Ki e (i+1)).2.length then M ([],(i:Int),16)else q6
def Lp(e:List fr):List Int×Int×Int:=
 if 48<a00 e then([],0,4)else if e.length=0 then([],0,5)
 else match ff (xD e) e.length with
  |some v=>v
  |none=>if 1<(Ki e e.length).2.length then([],(a00 e:Int),4)else((Ki e e.length).1,0,0)
theorem Ax{e:List fr}(h:∀j,j<i->xD e j=q6):(Ki e i).2.length<=12:=by
 cases i with
 |zero=>simp[Ki]
 |succ i=>
  have:=h i U
  grind[xD]
theorem aC1{n:Nat}(hp:p.length=i) (h:i<n):(p++l! (n-i) 0).set i f=p++[f]++l! (n-(i+1)) 0:=by
 obtain⟨k,hk⟩:∃k,n-i=k+1:=⟨n-i-1,U⟩;have hk':n-(i+1)=k:=U
 simp_all[List.replicate_succ]
theorem O2{r:List Int}(hp:p.length=i):(p++[f]++r)[i]?=M f:=by
 simp_all
theorem Zs(e:List fr):Un e=M (Lp e):=by
 unfold Un Lp;by_cases g:48<a00 e
 .grind
 rw[p5,p5 g];by_cases j:e.length=0
 .simp_all
 rw[p5,p5 j,DB U U,a!];have hl:ca (Zl e) (l! e.length 0,([]:List Int),0)=M (Ib ((Ki e e.length).1,(Ki e e.length).2) (ff (xD e) e.length)):=by
  refine xb (λi=>((Ki e i).1++l! (a00 e-i) 0,(Ki e i).2,(i:Int))) (xD e) e.length _ (λi hi hf=>?_) (λ_=>?_) ?_
  .have hs:=Ax hf;have hl:=UI e i;unfold Zl xD;simp only;rw[J,wa hi,a!,Hn hi,lp,a!];by_cases ha:Fb (pd e i).Op<0
   .rw[J ha,J ha];rfl
   rw[p5 ha,p5 ha];by_cases hb:((Ki e i).2.length:Int)<Fb (pd e i).Op
   .rw[J hb,J hb];rfl
   rw[p5 hb,p5 hb];obtain⟨a,c⟩:∃a:Nat,Fb (pd e i).Op=a:=⟨(Fb (pd e i).Op).toNat,U⟩;have h:Ki e (i+1)=((Ki e i).1++[if 0<a then((Ki e i).2[(Ki e i).2.length-a]?).getD 0 else(i:Int)],(Ki e i).2.take ((Ki e i).2.length-a)++[if 0<a then((Ki e i).2[(Ki e i).2.length-a]?).getD 0 else(i:Int)]):=by
    grind[Ki]
   have f:aa .i64 (((Ki e i).2.length:Int)-(a:Int))=(((Ki e i).2.length-a:Nat):Int):=by
    grind[g!]
   rw[c,h,f];generalize hS:(Ki e i).2=sk at *;generalize (Ki e i).1=st at *;rw[c]at hb;rw[wa (i:=i) o0,a!,WD o0,a!,aC1 hl hi,mB U];by_cases b:0<a
   .have hk:sk.length-a<a00 sk:=U
    rw[J,J b,wa hk,a!,wa (i:=i) l4,a!,WD l4,a!];have d:(st++[(i:Int)]++l! (a00 e-(i+1)) 0).set i sk[a00 sk-a]=st++[sk[a00 sk-a]]++l! (a00 e-(i+1)) 0:=by
     simp_all
    rw[d,a!,a!,n! hk,Τ,ao1,O2 hl,a!];rw[me o0,a!];by_cases hd:12<(sk.take (a00 sk-a)++[sk[a00 sk-a]]).length
    .grind
    .rw[p5,p5 hd,pa U];rfl
   .rw[p5,p5 b,a!,a!,ao1,O2 hl,a!];rw[me o0,a!];by_cases hd:12<(sk.take (a00 sk-a)++[(i:Int)]).length
    .rw[J,J hd];rfl
    .rw[p5,p5 hd,pa U];rfl
  all_goals grind[Zl,Ki]
 grind[Ib]
theorem ew(e:List fr):ij e=M (Lp e):=by
 unfold ij Lp;by_cases f:48<a00 e
 .grind
 rw[p5,p5 f];by_cases j:e.length=0
 .simp_all
 rw[p5,p5 j];have hl:ca (Ek e) (([]:List Int),([]:List Int),0)=M (Ib ((Ki e e.length).1,(Ki e e.length).2) (ff (xD e) e.length)):=by
  refine xb (λi=>((Ki e i).1,(Ki e i).2,(i:Int))) (xD e) e.length _ (λi hi hf=>?_) (λ_=>?_)
  .have hs:=Ax hf;have hl:=UI e i;unfold Ek xD;simp only;rw[J,wa hi,a!,Hn hi,Qx,a!];by_cases ha:Fb (pd e i).Op<0
   .rw[J ha,J ha];rfl
   rw[p5 ha,p5 ha];by_cases hb:((Ki e i).2.length:Int)<Fb (pd e i).Op
   .rw[J hb,J hb];rfl
   rw[p5 hb,p5 hb];obtain⟨a,c⟩:∃a:Nat,Fb (pd e i).Op=a:=⟨(Fb (pd e i).Op).toNat,U⟩;have h:Ki e (i+1)=((Ki e i).1++[if 0<a then((Ki e i).2[(Ki e i).2.length-a]?).getD 0 else(i:Int)],(Ki e i).2.take ((Ki e i).2.length-a)++[if 0<a then((Ki e i).2[(Ki e i).2.length-a]?).getD 0 else(i:Int)]):=by
    grind[Ki]
   have d:aa .i64 (((Ki e i).2.length:Int)-(a:Int))=(((Ki e i).2.length-a:Nat):Int):=by
    grind[g!]
   rw[c,h,d];generalize hS:(Ki e i).2=sk at *;generalize (Ki e i).1=st at *;rw[c]at hb;by_cases b:0<a
   .have hk:sk.length-a<a00 sk:=U
    rw[J,J b,wa hk,a!,mB U,a!,a!,n! hk,Τ];simp only;rw[me o0,a!,me o0,a!];by_cases hd:12<(sk.take (a00 sk-a)++[sk[a00 sk-a]]).length
    .grind
    .rw[p5,p5 hd,pa U];rfl
   .have g:a=0:=U
    subst g;rw[p5,p5 b,a!];simp only[Nat.sub_zero,η];rw[me o0,a!,me o0,a!];by_cases hd:12<(sk++[(i:Int)]).length
    .rw[J,J hd];rfl
    .rw[p5,p5 hd,pa U];rfl
  grind[Ek]
 grind[Ib]
def jJ(n:fr) (ops:List ej) (s:om):Prop:=∃r,Ya n ops s=M r/\(r.2=0->la r.1 s.r=a35)
theorem al1(hk:1<=k/\k<=5) (hn:n.Op=k):jJ n [] s:=by
 have hu:=Ka (op:=n.Op) U;have hus:Vc n.Op=a35:=by grind[Vc]
 have hv:la ⟨n.Op,0⟩ s.r=a35:=XZ U U;have a:Ya n [] s=M (if(RT ⟨n.Op,0⟩ s.r).1<=n.N/\n.N<=(RT ⟨n.Op,0⟩ s.r).2 then(⟨n.Op,0⟩,0)else(⟨0,0⟩,3)):=by
  grind[we,va,Ya,il]
 refine⟨_,a,?_⟩
 grind
theorem bg5(hN:Zb ⟨6,N⟩):jJ ⟨6,N⟩ [] s:=by
 have w:=KT (n:=N) (k:=16) U hN;have hu:=Ka (op:=6) U;have c:Vc 6=a35:=rfl;unfold jJ Ya va Yt;simp only[w,hu,c,iC];by_cases a:0<=N
 .have hd:0<=s? N 16:=Aad a U;by_cases b:s? N 16<(a00 s.r:Int)
  .rw[XA ⟨xad,[]⟩ hd b];have hv:la ⟨6,s? N 16⟩ s.r=a35:=by grind[la]
   generalize (s.r[(s? N 16).toNat]?).getD ⟨xad,[]⟩=m;have e1:¬N<0:=U
   have e2:¬(a00 s.r:Int)<=s? N 16:=U
   by_cases h2:v? N 16<(a00 m.s:Int)
   .have e3:¬(a00 m.s:Int)<=v? N 16:=U
    simp[a,b,h2,hv,e1,e2,e3,GA,-Prod.exists]
   .have e3:(a00 m.s:Int)<=v? N 16:=U
    simp[a,b,h2,hv,e1,e2,e3,GA,-Prod.exists]
  .have e1:¬N<0:=U
   have e2:(a00 s.r:Int)<=s? N 16:=U
   simp[a,b,e1,e2,GA,-Prod.exists]
 simp_all
theorem bg4:jJ ⟨7,N⟩ [] s:=by
 have hu:=Ka (op:=7) U;have a:Vc 7=a35:=rfl;unfold jJ Ya va xc;simp only[hu,a,Ra,iC];by_cases b:0<=N
 .have e1:¬N<0:=U
  by_cases c:N<(a00 s.w:Int)
  .rw[XA ⟨0,0⟩ b c];generalize (s.w[N.toNat]?).getD ⟨0,0⟩=t;obtain⟨e,d⟩:=t;have e2:¬(a00 s.w:Int)<=N:=U
   cases hv:la ⟨e,d⟩ s.r<;>simp[b,c,hv,e1,e2,GA,-Prod.exists]
  simp_all
 simp_all
theorem bg3:jJ ⟨8,N⟩ [] s:=by
 have hu:=Ka (op:=8) U;have a:Vc 8=a35:=rfl;unfold jJ Ya va xc;simp only[hu,a,Ra,iC];by_cases b:0<=N
 .have e1:¬N<0:=U
  by_cases c:N<(a00 s.d:Int)
  .rw[XA ⟨0,0⟩ b c];generalize (s.d[N.toNat]?).getD ⟨0,0⟩=t;obtain⟨e,d⟩:=t;have e2:¬(a00 s.d:Int)<=N:=U
   cases hv:la ⟨e,d⟩ s.r<;>simp[b,c,hv,e1,e2,GA,-Prod.exists]
  simp_all
 simp_all
theorem bg2:jJ ⟨9,N⟩ [] s:=by
 have hu:=Ka (op:=9) U;have a:Vc 9=a36:=rfl;unfold jJ Ya va;simp only[hu,a,PK];cases N==0<;>simp[bu9,GA,-Prod.exists]
theorem aI1:jJ ⟨35,N⟩ [] s:=by
 have hu:=Ka (op:=35) U;have a:Vc 35=a36:=rfl;unfold jJ Ya va Mg;simp only[hu,a,PK];cases hm:s.a6<;>cases N==0<;>simp[dJ,GA,-Prod.exists]
theorem al0(h:36<=op/\op<=39):jJ ⟨op,N⟩ [] s:=by
 have hu:=Ka (op:=op) U;have e:Vc op=a35:=by grind[Vc]
 unfold jJ Ya va Mg xc;simp only[hu,e,Ra,cj,iC];cases c:s.a6
 .rcases(by omega:op=36\/op=37\/op=38\/op=39)with h|h|h|h<;>subst h<;>simp[c,GA,-Prod.exists]
 .by_cases b:0<=N
  .have e1:¬N<0:=U
   by_cases d:N<(a00 s.ay:Int)
   .rw[XA ⟨0,0⟩ b d];generalize (s.ay[N.toNat]?).getD ⟨0,0⟩=t;obtain⟨a,i⟩:=t;have e2:¬(a00 s.ay:Int)<=N:=U
    cases hv:la ⟨a,i⟩ s.r
    .rcases(by omega:op=36\/op=37\/op=38\/op=39)with h|h|h|h<;>subst h<;>simp[c,b,d,hv,e1,e2,GA,-Prod.exists]
    .rcases(by omega:op=36\/op=37\/op=38\/op=39)with h|h|h|h<;>subst h<;>simp only[c,b,d,hv,e1,e2,a!,w3,s7,not_true_eq_false,R1,D2,G1,t!,O!,t?,beq_self_eq_true,E?]
     .by_cases g:a=2<;>by_cases k3:a=3<;>simp[g,k3,hv,GA,-Prod.exists]<;>simp_all
     .by_cases f:a=1<;>simp[f,hv,GA,-Prod.exists]<;>simp_all
     .by_cases f:a=1<;>simp[f,hv,GA,-Prod.exists]<;>simp_all
     .cases qC a<;>by_cases k5:a=5<;>simp[k5,hv,GA,-Prod.exists]<;>simp_all
   .have e2:(a00 s.ay:Int)<=N:=U
    rcases(by omega:op=36\/op=37\/op=38\/op=39)with h|h|h|h<;>subst h<;>simp[c,b,d,e1,e2,GA,-Prod.exists]
  .have e1:N<0:=U
   rcases(by omega:op=36\/op=37\/op=38\/op=39)with h|h|h|h<;>subst h<;>simp[c,b,e1,GA,-Prod.exists]
theorem ak9(d:op=10\/op=25\/op=31\/op=32) (ha:la a s.r=a35):jJ ⟨op,N⟩ [a] s:=by
 have hu:=Ka (op:=op) U;have e:Vc op=a36:=by grind[Vc]
 unfold jJ Ya va Ja;simp only[hu,e,PK,cj];obtain⟨c,ae⟩:=a;rcases d with h|h|h|h<;>subst h<;>cases N==0
 .simp
 .cases hn:qC c<;>simp[Md,hn,ha,GA,-Prod.exists]
 .simp
 .by_cases b:c=1
  .subst b;have:=eJ ha l5
   simp_all[Md]
  simp_all[Md]
 .simp
 .by_cases b:c=5<;>simp[Md,b,dJ,GA,-Prod.exists]
 .simp
 .by_cases b:c=5<;>simp[Md,b,dJ,GA,-Prod.exists]
theorem aI3(ha:la a s.r=a35):jJ ⟨33,N⟩ [a] s:=by
 have hu:=Ka (op:=33) U;have d:Vc 33=a35:=rfl;unfold jJ Ya va lk;simp only[hu,d,Ra,iC];by_cases b:0<=N
 .have e1:¬N<0:=U
  by_cases c:N<(a00 s.Tables:Int)
  .obtain⟨t,ht⟩:∃t,c! s.Tables N=M t:=⟨_,Nh b c⟩;have e2:¬(a00 s.Tables:Int)<=N:=U
   cases hk:la t.af s.r
   .simp[Md,ht,b,c,e1,e2,hk,GA,-Prod.exists]
   .cases hv:la t.Value s.r
    .simp[Md,ht,b,c,e1,e2,hk,hv,GA,-Prod.exists]
    .by_cases e:a.a=t.af.a<;>by_cases f:a.g=t.af.g<;>simp[Md,ht,b,c,e1,e2,hk,hv,e,f,GA,-Prod.exists]
  simp_all[Md]
 .have e1:N<0:=U
  have e3:¬N<(a00 s.Tables:Int)\/N<(a00 s.Tables:Int):=U
  simp[Md,b,e1,GA,-Prod.exists]
theorem aI2(hN:Zb ⟨34,N⟩) (ha:la a s.r=a35):jJ ⟨34,N⟩ [a] s:=by
 have hu:=Ka (op:=34) U;have j:Vc 34=a35:=rfl;have w:=KT (n:=N) (k:=8) U hN;unfold jJ Ya va lk fi;simp only[hu,j,Ra,iC,w];by_cases g:0<=N
 .have e1:¬N<0:=U
  have hd:0<=s? N 8:=Aad g U;have d:0<=v? N 8:=eae _ g;have e3:¬s? N 8<0:=U
  by_cases v:v? N 8<=5
  .by_cases u:s? N 8<(a00 s.Tables:Int)
   .obtain⟨t,ht⟩:∃t,c! s.Tables (s? N 8)=M t:=⟨_,Nh hd u⟩;have e2:¬(a00 s.Tables:Int)<=s? N 8:=U
    obtain⟨_,⟨o,m⟩,⟨q,p⟩,_⟩:=t;obtain⟨f,r⟩:=a;simp only[Md,ht,g,u,e1,e2,e3,d,v,a!,w3,s7,not_true_eq_false,R1,D2,G1,t!,O!,t?,beq_self_eq_true,E?,γ,iac];by_cases h:o=3
    .subst h;by_cases i:m=0
     .subst i;rw[show la ⟨3,0⟩ s.r=a35 from kX];by_cases e:q=4
      .subst e;by_cases l:p=0
       .subst l;rw[show la ⟨4,0⟩ s.r=a35 from ab5];by_cases b:f=3
        .subst b;have:=eJ ha l5
         simp_all
        simp_all
       simp_all[la]
      .cases la ⟨q,p⟩ s.r<;>by_cases b:f=3<;>by_cases c:r=0<;>simp[b,c,e,GA,-Prod.exists]
     simp_all[la]
    .cases la ⟨o,m⟩ s.r<;>cases la ⟨q,p⟩ s.r<;>by_cases b:f=3<;>by_cases hak:f=o<;>by_cases c:r=m<;>simp_all[GA,-Prod.exists]
   simp_all[Md]
  simp_all[Md]
 simp_all[Md]
theorem aI4(hb:la b s.r=a35):jJ ⟨26,N⟩ [a,b,c] s:=by
 have hu:=Ka (op:=26) U;have d:Vc 26=a36:=rfl;unfold jJ Ya va Ja;simp only[hu,d,PK];obtain⟨bk,be⟩:=b;cases N==0
 .simp
 .by_cases e:a.a=1<;>by_cases f:bk=c.a<;>by_cases k3:be=c.g<;>simp[Md,fI,SS,e,f,k3,GA,-Prod.exists]
  simp_all
theorem ay3(hop:(11<=op/\op<=24)\/(27<=op/\op<=30)) {ok:Bool}(d:Ja op [a,b]=M (t',ok)) (ht:ok=a35->la t' s.r=a35) :
 jJ ⟨op,N⟩ [a,b] s:=by
 have hu:=Ka (op:=op) U;have hr:(14<=op/\op<=16)/\va ⟨op,N⟩ [a,b] s=(if(s5 (0<=N)&&s5 (N<=5))=a35 then(Ja op [a,b]).bind λx=>if x.2=a36 then M (⟨0,0⟩,8)else M (x.1,0)else M (⟨0,0⟩,3))\/
  ¬(14<=op/\op<=16)/\va ⟨op,N⟩ [a,b] s=((Ja op [a,b]).bind λx=>if x.2=a36 then M (⟨0,0⟩,8)else M (x.1,0)):=by
  clear d ht hu;by_cases h:14<=op/\op<=16
  .refine .inl ⟨h,?_⟩
   .unfold va fi;simp only[QE];rcases(by omega:op=14\/op=15\/op=16)with h|h|h<;>subst h<;>by_cases g1:0<=N<;>by_cases g2:N<=5<;>simp[g1,g2]
  .refine .inr ⟨h,?_⟩
   .unfold va;rcases(by omega:op=11\/op=12\/op=13\/op=17\/op=18\/op=19\/op=20\/op=21\/op=22\/op=23\/op=24\/op=27\/op=28\/op=29\/op=30)with h|h|h|h|h|h|h|h|h|h|h|h|h|h|h<;>subst h<;>simp
 have fin:∀(e:Vc op=a35\/N=0),va ⟨op,N⟩ [a,b] s=((Ja op [a,b]).bind λx=>if x.2=a36 then M (⟨0,0⟩,8)else M (x.1,0))->jJ ⟨op,N⟩ [a,b] s:=by
  intro e h2;unfold jJ;rw[cg7 hu h2 d e]
  grind
 rcases hr with⟨h,h2⟩|⟨h,h2⟩
 .have c:Vc op=a35:=by grind[Vc]
  by_cases hN:(s5 (0<=N)&&s5 (N<=5))=a35
  .simp_all
  .rw[Kac]at hN;rw[hN,p5 l5]at h2;unfold jJ Ya
   simp_all
 .have c:Vc op=a36:=by grind[Vc]
  by_cases hN:N=0
  .simp_all
  .unfold jJ Ya
   simp_all
theorem ak8(hop:(11<=op/\op<=24)\/(27<=op/\op<=30)) (ha:la a s.r=a35):jJ ⟨op,N⟩ [a,b] s:=by
 have i:∀k,1<=k->k<=5->a.a=k->a.g=0:=λk g h2 h=>eJ ha U;obtain⟨d,f⟩:=a;obtain⟨bk,be⟩:=b;simp only at i;have hr:∃t' ok,Ja op [⟨d,f⟩,⟨bk,be⟩]=M (t',ok)/\(ok=a35->la t' s.r=a35):=by
  unfold Ja Tn;simp only[Md,fI,cj];rcases(by omega:op=11\/op=12\/op=13\/op=14\/op=15\/op=16\/op=17\/op=18\/op=19\/op=20\/op=21\/op=22\/op=23\/op=24\/op=27\/op=28\/op=29\/op=30)with h|h|h|h|h|h|h|h|h|h|h|h|h|h|h|h|h|h<;>subst h
  .by_cases c:d=bk/\f=be
   .cases hn:qC d<;>simp[c,hn,ha]
    all_goals grind
   .simp[c]
  .by_cases c:d=bk/\f=be
   .cases hn:qC d<;>simp[c,hn,ha]
    all_goals grind
   .simp[c]
  .by_cases c:bk=2<;>by_cases e:d=2<;>by_cases k3:d=3<;>simp[c,e,k3,dJ,kX]
  .by_cases c:bk=4<;>by_cases e:d=3<;>by_cases k3:d=4<;>simp[c,e,k3,ab5,kX]
  .by_cases c:bk=2<;>by_cases e:d=2<;>by_cases k3:d=3<;>by_cases k4:bk=3<;>simp[c,e,k3,k4,dJ,kX,ab5]
   all_goals simp_all
  .by_cases c:d=3<;>by_cases e:bk=3<;>simp[c,e]
   simp_all
  .by_cases c:d=bk/\f=be
   .cases hn:qC d<;>by_cases k5:d=5<;>simp[c,hn,k5,ha]
    all_goals grind
   .simp[c]
  .by_cases c:d=bk/\f=be
   .cases hn:qC d<;>by_cases k5:d=5<;>simp[c,hn,k5,ha]
    all_goals grind
   .simp[c]
  .by_cases c:d=bk<;>by_cases e:f=be<;>simp[c,e,ZL]
  .by_cases c:d=bk<;>by_cases e:f=be<;>simp[c,e,ZL]
  .by_cases c:d=bk/\f=be
   .cases hn:qC d<;>by_cases k5:d=5<;>simp[c,hn,k5,ZL]
    all_goals grind[ZL]
   .simp[c]
  .by_cases c:d=bk/\f=be
   .cases hn:qC d<;>by_cases k5:d=5<;>simp[c,hn,k5,ZL]
    all_goals grind[ZL]
   .simp[c]
  .by_cases c:d=1<;>by_cases e:bk=1<;>simp[c,e]
   grind
  .by_cases c:d=1<;>by_cases e:bk=1<;>simp[c,e]
   grind
  .by_cases c:d=5<;>by_cases e:bk=2<;>simp[c,e]
   simp_all
  .by_cases c:d=5<;>by_cases e:bk=2<;>simp[c,e]
   simp_all
  .by_cases c:d=5<;>by_cases e:bk=5<;>simp[c,e,dJ]
  .by_cases c:d=5<;>by_cases e:bk=5<;>simp[c,e,dJ]
 obtain⟨t',ok,g,h3⟩:=hr
 grind[ay3]
theorem T3(e:1<=n.Op/\n.Op<=39) (hN:Zb n) (d:(a00 ops:Int)=Fb n.Op) (hv:∀t∈ops,la t s.r=a35):jJ n ops s:=by
 obtain⟨op,N⟩:=n;simp only at e d;unfold Fb at d;by_cases f:(1<=op/\op<=9)\/(35<=op/\op<=39)
 .rw[J f]at d;obtain rfl:ops=[]:=Ε U;rcases(by omega:(1<=op/\op<=5)\/op=6\/op=7\/op=8\/op=9\/op=35\/(36<=op/\op<=39))with h|h|h|h|h|h|h
  .exact al1 h rfl
  all_goals grind[bg5,bg4,bg3,bg2,aI1,al0]
 rw[p5 f]at d;by_cases g:op=10\/op=25\/(31<=op/\op<=34)
 .rw[J g]at d;obtain⟨a,rfl⟩:∃a,ops=[a]:=by
   match ops,d with
   |[a],_=>simp
  have ha:=hv a l5;rcases(by omega:(op=10\/op=25\/op=31\/op=32)\/op=33\/op=34)with h|h|h
  all_goals grind[ak9,aI3,aI2]
 rw[p5 g]at d;by_cases h2:op=26
 .rw[J h2]at d;obtain⟨a,b,c,rfl⟩:∃a b c,ops=[a,b,c]:=by
   match ops,d with
   |[a,b,c],_=>simp
  grind[aI4]
 rw[p5 h2,J]at d;obtain⟨a,b,rfl⟩:∃a b,ops=[a,b]:=by
  match ops,d with
  |[a,b],_=>simp
 grind[ak8]
def Fj(e:List fr) (i:Nat):Nat:=(Fb (pd e i).Op).toNat
noncomputable def FG(e:List fr) (s:om) (st:List ej) (i:Nat):ej×Int:=(Ya (pd e i) (st.drop (a00 st-Fj e i)) s).getD (⟨0,0⟩,0)
noncomputable def AA(e:List fr) (s:om):Nat->List ej
 |0=>[]
 |i+1=>(AA e s i).take ((AA e s i).length-Fj e i)++[(FG e s (AA e s i) i).1]
noncomputable def nG(e:List fr) (s:om) (i:Nat):Option (ej×Int×Int):=
 if(FG e s (AA e s i) i).2=0 then q6 else M (⟨0,0⟩,(i:Int),(FG e s (AA e s i) i).2)
noncomputable def oB(e:List fr) (s:om):ej×Int×Int:=
 if(Lp e).2.2=0 then(match ff (nG e s) e.length with|some v=>v|none=>((AA e s e.length)[0]?.getD ⟨0,0⟩,0,0))else(⟨0,0⟩,(Lp e).2.1,(Lp e).2.2)
structure X? (e:List fr):Prop where
 pos:0<a00 e
 le:e.length<=48
 err:∀i,i<a00 e->xD e i=q6
 one:(Ki e e.length).2.length<=1
variable {e:List fr}
theorem yK(h:(Lp e).2.2=0):X? e:=by
 unfold Lp at h;split at h
 .grind
 split at h
 .grind
 rename_i h48 h0;split at h
 .grind[xD,Oa]
 .rename_i hn;split at h
  .grind
  .exact⟨U,U,Xa.1 hn,U⟩
theorem X?.ar(h:X? e) (hi:i<a00 e):0<=Fb (pd e i).Op/\Fj e i<=(Ki e i).2.length/\(1<=(pd e i).Op/\(pd e i).Op<=39):=by
 have:=h.err i hi
 grind[xD,Fj,vF]
theorem jP:(Ki e (i+1)).2.length=(Ki e i).2.length-Fj e i+1:=by
 simp[Ki,Fj]
theorem al4(hN:∀n∈e,Zb n) (hi:i<a00 e):Zb (pd e i):=by
 rw[←Hn hi];simp_all
theorem pD{e:List fr}{s:om}(h:X? e) (hN:∀n∈e,Zb n):∀i,i<=a00 e->(∀j,j<i->nG e s j=q6)->(AA e s i).length=(Ki e i).2.length/\∀t∈AA e s i,la t s.r=a35
 |0,_,_=>by simp[AA,Ki]
 |i+1,hi,ht=>by
  obtain⟨h1,h2⟩:=pD h hN i U λj hj=>ht j U;obtain⟨a1,a2,a3⟩:=h.ar (i:=i) U;refine⟨by grind[AA,jP],?_⟩;intro t hm;simp only[AA,List.mem_append,ψ]at hm;rcases hm with hm|rfl
  .grind
  .obtain⟨r,hr,hv⟩:=T3 (n:=pd e i) (ops:=(AA e s i).drop ((AA e s i).length-Fj e i)) (s:=s) a3 (al4 hN U) (by grind[Fj]) (λt ht=>h2 t (aad ht));have hz:=ht i U
   grind[nG,FG]
theorem gO(h:X? e) (hN:∀n∈e,Zb n) (hi:i<a00 e) (ht:∀j,j<i->nG e s j=q6) :
 Ya (pd e i) ((AA e s i).drop ((AA e s i).length-Fj e i)) s=M (FG e s (AA e s i) i):=by
 obtain⟨h1,h2⟩:=pD h hN i U ht;obtain⟨a1,a2,a3⟩:=h.ar hi;obtain⟨r,hr,hv⟩:=T3 (n:=pd e i) (ops:=(AA e s i).drop ((AA e s i).length-Fj e i)) (s:=s) a3 (al4 hN hi) (by grind[Fj]) (λt ht=>h2 t (aad ht))
 grind[FG]
theorem aH6(h:X? e) (hN:∀n∈e,Zb n) (hi:i<a00 e) (ht:∀j,j<i->nG e s j=q6) :
 Ya (pd e i) ((AA e s i).drop ((AA e s i).length-Fj e i)) s=M (FG e s (AA e s i) i)/\db (pd e i) ((AA e s i).drop ((AA e s i).length-Fj e i)) s=M (FG e s (AA e s i) i):=by
 obtain⟨h1,h2⟩:=pD h hN i U ht;obtain⟨a1,a2,a3⟩:=h.ar hi;obtain⟨e1,r,hr,hv⟩:=aH5 (n:=pd e i) (ops:=(AA e s i).drop ((AA e s i).length-Fj e i)) (s:=s) a3 (al4 hN hi) (by grind[Fj]) (λt ht=>h2 t (aad ht))
 grind[gO]
theorem zO(hN:∀n∈e,Zb n) (s:om):cw e s=M (oB e s):=by
 unfold cw oB;rw[ew,a!];by_cases c:(Lp e).2.2=0
 .rw[p5,J c];have hw:=yK c;have hl:ca (bq e s) (([]:List ej),0)=M (Ib (AA e s e.length) (ff (nG e s) e.length)):=by
   refine xb (λi=>(AA e s i,(i:Int))) (nG e s) e.length _ (λi hi ht=>?_) (λ_=>?_)
   .obtain⟨n1,f⟩:=aH6 hw hN hi ht;obtain⟨d,h2⟩:=pD hw hN i U ht;obtain⟨a1,a2,a3⟩:=hw.ar hi;have hle:=hw.le;have h12:=Ax (e:=e) (i:=i) λj hj=>hw.err j U;unfold bq nG;simp only;have a:aa .i64 (((AA e s i).length:Int)-Fb (pd e i).Op)=(((AA e s i).length-Fj e i:Nat):Int):=by
     grind[Fj,g!]
    rw[J,wa hi,a!,Hn hi,Qx,a!,a,ae1 U,a!,f,a!];by_cases b:(FG e s (AA e s i) i).2=0
    .rw[p5,J b,mB U,a!,me o0,a!,pa U];rfl
    .rw[J b,p5 b];rfl
   grind[bq]
  rw[hl]
  cases hf:ff (nG e s) e.length with
  |some v=>rfl
  |none=>
   obtain⟨d,h2⟩:=pD (s:=s) hw hN e.length U (Xa.1 hf);have:0<(AA e s e.length).length:=by
    rw[d];obtain⟨k,hk⟩:∃k,a00 e=k+1:=⟨a00 e-1,by have:=hw.pos;omega⟩
    grind[jP]
   simp only[Ib,a!];rw[show(0:Int)=((0:Nat):Int)from rfl,wa this,a!,n! this];rfl
 simp_all
theorem UP(hN:∀n∈e,Zb n) (s:om):gy e s=M (oB e s):=by
 unfold gy oB;rw[Zs,a!];by_cases f:(Lp e).2.2=0
 .rw[p5,J f];have hw:=yK f;have hl:ca (Ir e s) (([]:List ej),0)=M (Ib (AA e s e.length) (ff (nG e s) e.length)):=by
   refine xb (λi=>(AA e s i,(i:Int))) (nG e s) e.length _ (λi hi ht=>?_) (λ_=>?_)
   .have a:=gO hw hN hi ht;obtain⟨g,h2⟩:=pD hw hN i U ht;obtain⟨a1,a2,a3⟩:=hw.ar hi;have hle:=hw.le;have h12:=Ax (e:=e) (i:=i) λj hj=>hw.err j U;unfold Ir nG;simp only;have b:aa .i64 (((AA e s i).length:Int)-Fb (pd e i).Op)=(((AA e s i).length-Fj e i:Nat):Int):=by
     grind[Fj,g!]
    rw[J,wa hi,a!,Hn hi];unfold Ya at a;rw[Ka a3]at a⊢;have hj:(if¬(pd e i).N=0 then(M (Vc (pd e i).Op)).bind λh=>M (!h)else M a36)=M (!(pd e i).N==0&&!Vc (pd e i).Op):=by
     grind
    rw[hj]at a⊢;rw[a!]at a⊢;generalize (!(pd e i).N==0&&!Vc (pd e i).Op)=c at a⊢;cases c
    .rw[p5 l5]at a⊢;rw[lp,a!,b,ae1 U,a!,a,a!];by_cases d:(FG e s (AA e s i) i).2=0
     .rw[p5,J d,mB U,a!,me o0,a!,pa U];rfl
     .rw[J d,p5 d];rfl
    .rw[J rfl]at a⊢;injection a with a;rw[←a,p5 o4];rfl
   grind[Ir]
  rw[hl]
  cases hf:ff (nG e s) e.length with
  |some v=>rfl
  |none=>
   obtain⟨g,h2⟩:=pD (s:=s) hw hN e.length U (Xa.1 hf);have:0<(AA e s e.length).length:=by
    rw[g];obtain⟨k,hk⟩:∃k,a00 e=k+1:=⟨a00 e-1,by have:=hw.pos;omega⟩
    grind[jP]
   simp only[Ib,a!];rw[show(0:Int)=((0:Nat):Int)from rfl,wa this,a!,n! this];rfl
 simp_all
end Go.Proofs.Dev
namespace Go.Tm
theorem pC{x n:Int}:∀{l:List Int},x∈cm l n↔x∈l\/x=n
 |[]=>by simp[cm]
 |y::l=>by
  simp only[cm];split
  .grind
  .simp only[Y',pC (l:=l)];grind
abbrev pX(l:List Int):Prop:=l.Pairwise (·<·)
theorem PN{n:Int}:∀{l:List Int},pX l->pX (cm l n)
 |[],_=>by simp[cm]
 |y::l,h=>by
  have b:=Hab.1 h;simp only[cm];split
  .split
   .refine Hab.2 ⟨λz a=>?_,h⟩
    grind
   omega
  .refine Hab.2 ⟨λz a=>?_,PN b.2⟩;rcases pC.1 a with a|rfl
   all_goals simp_all
theorem FE{n:Int}:∀{l:List Int},(cm l n).length<=a00 l+1
 |[]=>by simp[cm]
 |y::l=>by
  simp only[cm];split
  .grind
  .have:=FE (n:=n) (l:=l);simp_all
theorem T2{n:Int}:∀{l:List Int},(∀x∈l,x<n)->cm l n=l++[n]
 |[],_=>rfl
 |y::l,h=>by
  have:=h y l5;simp only[cm];rw[p5,T2 λx hx=>h x o0];rfl
theorem xV{n:Int}{r:List Int}:∀{l:List Int},(∃x∈l,n<=x)->cm (l++r) n=cm l n++r
 |[],h=>o0
 |y::l,h=>by
  simp only[cm,G!];split
  .grind
  .rename_i hny;rw[xV (l:=l),G!]
   simp_all
theorem JJ{n x:Int}:∀{l:List Int},(∀y∈l,y<n)->n<=x->cm (l++[x]) n=l++(if n<x then [n,x]else [x])
 |[],_,h=>by simp_all[cm]
 |y::l,hl,h=>by
  have:=hl y l5;simp only[cm,G!];rw[p5,JJ (λy hy=>hl y o0) h]
theorem kz{α A β ρ:Type}{step:A×Int->Option (Ex (A×Int) β ρ)}(xs:List α) (f:A->α->A) (a0:A) (b:β) {x0:A×Int}(hx:x0=(a0,0))
 (hgo:∀(i:Nat) (hi:i<a00 xs),step ((xs.take i).foldl f a0,(i:Int))=M (.go (f ((xs.take i).foldl f a0) xs[i],((i+1:Nat):Int)))) (hend:step (xs.foldl f a0,(a00 xs:Int))=M (.brk b)) :
 ca step x0=M (.inl b):=by
 refine Uc (λi=>((xs.take i).foldl f a0,(i:Int))) xs.length b (λi hi=>?_) ?_ l4
 all_goals grind[O']
end Go.Tm
namespace Go.Proofs.Dev
open Go Go.Tm
variable {l:List Int}{n:Int}
theorem an8(hl:l.length<=1099511627776):ca (dq l n) (([]:List Int),a36,0)=M (.inl (if(l.any λx=>s5 (n<=x))=a35 then cm l n else l,l.any λx=>s5 (n<=x))):=by
 refine Uc (λi=>(if((l.take i).any λx=>s5 (n<=x))=a35 then cm (l.take i) n else l.take i,(l.take i).any λx=>s5 (n<=x),(i:Int))) l.length _ (λi hi=>?_) ?_ l5
 .unfold dq;simp only;have ht:l.take (i+1)=l.take i++[l[i]]:=l5
  have c:(l.take i).length=i:=o0
  rw[J,ht,List.any_append,wa hi];generalize l[i]=x;generalize l.take i=p at c⊢;cases hp:p.any λx=>s5 (n<=x)
  .have b:∀y∈p,y<n:=λy hy=>by
    simp_all
   simp only[w3,a!,t!,s7,Bool.false_or,List.any_cons,List.any_nil,tae];by_cases hx:n<=x
   .rw[s6 hx];simp only[w3];by_cases a:n<x
    .rw[J a,me o0,a!,a!,a!];simp only;rw[me o0,a!,pa U,JJ b hx,J a];simp
    .rw[p5 a,a!,a!];simp only;rw[me o0,a!,pa U,JJ b hx,p5 a]
   .rw[u4 hx];simp only[t!,s7,a!]
    grind[me,pa]
  .have hex:∃y∈p,n<=y:=by
    simp_all
   have:=FE (n:=n) (l:=p);simp only[O!,s7,a!,w3,t!,Bool.true_or]
   grind[me,pa,xV]
 grind[dq]
theorem dw(hl:l.length<=1099511627776):zp l n=M (cm l n):=by
 unfold zp;rw[an8 hl,a!];simp only;cases hp:l.any λx=>s5 (n<=x)
 .have hall:∀y∈l,y<n:=λy hy=>by
   simp_all
  simp only[w3,t!,s7]
  grind[me,T2]
 simp
theorem sw(hl:l.length<=1099511627776):Ag l n=M (cm l n):=by
 rw[←dw hl];rfl
end Go.Proofs.Dev
namespace Go.Tm
def pY{l:List Int}{x:Int}:Vd (l++[x])=cm (Vd l) x:=by simp[Vd,List.foldl_append]
theorem Mf(l:List Int):pX (Vd l)/\(Vd l).length<=a00 l/\∀x,x∈Vd l↔x∈l:=by
 have key:∀(l a:List Int),pX a->pX (l.foldl cm a)/\(l.foldl cm a).length<=a00 a+a00 l/\∀x,x∈l.foldl cm a↔x∈a\/x∈l:=by
  intro l
  induction l with
  |nil=>simp
  |cons y l d=>
   intro a h;obtain⟨b,h2,c⟩:=d (cm a y) (PN h);have:=FE (n:=y) (l:=a);refine⟨b,o0,λx=>?_⟩
   simp_all[Z',pC,Y',or_assoc]
 obtain⟨b,h2,c⟩:=key l [] l5
 grind[Vd]
theorem mM{lo hi:Int}:∀{a:List Int},pX a->(∀x∈a,lo<=x/\x<hi)->a.length<=(hi-lo).toNat
 |[],_,_=>l5
 |x::a,h,hb=>by
  have b:=Hab.1 h;have hx:=hb x l5;have:=mM (lo:=x+1) (hi:=hi) b.2 λy hy=>⟨o0,(hb y o0).2⟩
  grind
theorem lM:∀{a b:List Int},pX a->pX b->(∀x,x∈a↔x∈b)->a=b
 |[],[],_,_,_=>rfl
 |[],y::b,_,_,h=>by have:=(h y).2 l5;simp_all
 |x::a,[],_,_,h=>by have:=(h x).1 l5;simp_all
 |x::a,y::b,ha,hb,h=>by
  have c:=Hab.1 ha;have d:=Hab.1 hb;have e:x=y:=by
   have h1:=(h x).1 l5;have h2:=(h y).2 l5
   grind
  subst e;rw[lM c.2 d.2 λz=>?_]
  grind
end Go.Tm
namespace Go.Proofs.Dev
open Go Go.Tm
variable {p:fr->Bool}{l a:List Int}{x:fr}{e:List fr}{n d:Int}
def UC(p:fr->Bool) (e:List fr):List Int:=Vd ((e.filter p).map (·.N))
theorem ar6{l:List fr}:UC p (l++[x])=if p x=a35 then cm (UC p l) x.N else UC p l:=by
 unfold UC;rw[ι,List.map_append];by_cases h:p x=a35
 all_goals simp_all[if_pos,List.filter_cons_of_pos,List.filter_nil,pY,if_neg,List.filter_cons_of_neg]
theorem Us:(UC p e).length<=a00 e:=by
 grind[UC,Mf,Ο]
def zV(n:fr):Bool:=n.Op==7
def Eh(n:fr):Bool:=n.Op==8
def ky(n:fr):Bool:=n.Op==36 || n.Op==37 || n.Op==38 || n.Op==39
def Ko(e:List fr):List Int×List Int×List Int:=(UC zV e,UC Eh e,UC ky e)
theorem lM:∀{a b:List Int},pX a->pX b->(∀x,x∈a↔x∈b)->a=b
 |[],[],_,_,_=>rfl
 |[],y::b,_,_,h=>by have:=(h y).2 l5;simp_all
 |x::a,[],_,_,h=>by have:=(h x).1 l5;simp_all
 |x::a,y::b,ha,hb,h=>by
  obtain⟨ha1,c⟩:=Hab.1 ha;obtain⟨hb1,d⟩:=Hab.1 hb;have e:x=y:=by
   have h1:=(h x).1 l5;have h2:=(h y).2 l5
   grind
  subst e;rw[lM c d λz=>?_]
  grind
theorem sG{d:Array Int}(k:∀i j,i<j->j<d.size->d[i]!<=d[j]!):∀m,m<=d.size->pX (Go.Lib.compactUpTo d m)/\∀x,x∈Go.Lib.compactUpTo d m↔∃i,i<m/\d[i]! = x
 |0,_=>⟨by simp[Go.Lib.compactUpTo,pX],by simp[Go.Lib.compactUpTo]⟩
 |m+1,hm=>by
  obtain⟨b,e⟩:=sG k m U;have g:∀i,i<m->d[i]!<=d[m-1]!:=by
   intro i hi;by_cases h:i=m-1
   .simp_all
   .exact k i (m-1) U U
  rw[Go.Lib.compactUpTo_succ];by_cases hk:Go.Lib.keeps d m=a35
  .rw[J hk];refine⟨?_,λx=>?_⟩
   .unfold pX;rw[List.pairwise_append];refine⟨b,l5,λa ha c hc=>?_⟩;obtain⟨i,hi,rfl⟩:=(e a).1 ha;obtain rfl:=ψ.1 hc;have hne:d[m]!≠d[m-1]!:=by
     have:=D1 hk;omega
    have h1:=g i hi;have h2:=k (m-1) m U U;omega
   grind
  .rw[p5 hk,List.append_nil];refine⟨b,λx=>?_⟩;rw[e];have f:Go.Lib.keeps d m=a36:=l4
   have hmm:¬(m=0\/d[m]!≠d[m-1]!):=of_decide_eq_false f
   grind
theorem tB(l:List Int):Go.Lib.compact (l.mergeSort λx y=>s5 (x<=y))=Vd l:=by
 have hp:=List.pairwise_mergeSort (le:=λ(x y:Int)=>s5 (x<=y)) (λa b c e h2=>o0) (λa b=>o0) l;have hm:∀x,x∈(l.mergeSort λx y=>s5 (x<=y))↔x∈l:=λx=>List.mem_mergeSort;generalize (l.mergeSort λx y=>s5 (x<=y))=q at *;obtain⟨e,h2⟩:=sG (d:=q.toArray) (λi j hij hj=>by
  grind[List.pairwise_iff_getElem]) q.length l5
 obtain⟨g1,-,g2⟩:=Mf l;refine lM e g1 λx=>?_;unfold Go.Lib.compact;rw[h2,g2,←hm x];constructor
 .grind
 .intro h;obtain⟨i,hi,rfl⟩:=List.mem_iff_getElem.1 h;exact⟨i,hi,l4⟩
theorem Oy(h:l.length<=1099511627776):dn l=M (Vd l):=by
 unfold dn Wa La;rw[J,a!,J aaH,a!,tB]
theorem XB(h:l.length<=8796093022208):ck l=M (Vd l):=by
 simp_all[ck,Wa,La,if_pos,a!,tB]
theorem xE{l:List fr}:((l++[x]).filter p).map (·.N)=if p x=a35 then(l.filter p).map (·.N)++[x.N]else(l.filter p).map (·.N):=by
 grind
theorem Vq(h:e.length<=1099511627776):Lg e=M (Ko e):=by
 unfold Lg;have hb:∀(p:fr->Bool) (i:Nat),(((e.take i).filter p).map (·.N)).length<=a00 e:=λp i=>by
  grind
 have hl:ca (ik e) (([]:List Int),([]:List Int),([]:List Int),0)=M (.inl ((e.filter zV).map (·.N),(e.filter Eh).map (·.N),(e.filter ky).map (·.N))):=by
  refine Uc (λi=>(((e.take i).filter zV).map (·.N),((e.take i).filter Eh).map (·.N),((e.take i).filter ky).map (·.N),(i:Int))) e.length _ (λi hi=>?_) ?_ rfl
  .have ht:e.take (i+1)=e.take i++[e[i]]:=l5
   have b1:=hb zV i;have b2:=hb Eh i;have b3:=hb ky i;unfold ik;simp only;rw[J,wa hi,a!,pa U,ht,xE,xE,xE]
   grind[zV,Eh,ky,me]
  simp_all[ik,if_neg,η]
 have c:∀p:fr->Bool,((e.filter p).map (·.N)).length<=1099511627776:=λp=>by
  grind
 rw[hl,a!];simp only;rw[Oy (c zV),a!,Oy (c Eh),a!,Oy (c ky),a!];rfl
theorem xp(h:e.length<=1099511627776):Xf e=M (Ko e):=by
 unfold Xf;have hl:ca (zj e) (([]:List Int),([]:List Int),([]:List Int),0)=M (.inl (Ko e)):=by
  refine Uc (λi=>((Ko (e.take i)).1,(Ko (e.take i)).2.1,(Ko (e.take i)).2.2,(i:Int))) e.length _ (λi hi=>?_) ?_ rfl
  .have ht:e.take (i+1)=e.take i++[e[i]]:=l5
   have a:(e.take i).length<=1099511627776:=o0
   have b:=Us (p:=zV) (e:=e.take i);have c:=Us (p:=Eh) (e:=e.take i);have d:=Us (p:=ky) (e:=e.take i);unfold zj Ko;simp only[ht,ar6];rw[J,wa hi,pa U];generalize e[i]=x;simp only[a!,dw (P' b a),dw (P' c a),dw (P' d a),QE]
   grind[b?,decide,zV,cm,UC,Eh,ky]
  grind[zj]
 simp_all
def BE(n:Int) (a:List Int) (x:Int):List Int:=if 0<=x/\x<n then cm a x else a
def yH(n:Int) (a:List Int):Prop:=pX a/\∀x∈a,0<=x/\x<n
theorem yH.len(h:yH n a):a.length<=n.toNat:=by
 have:=mM (lo:=0) (hi:=n) h.1 h.2;omega
theorem yH.nil:yH n []:=⟨l5,l5⟩
theorem yH.ins{x:Int}(h:yH n a):yH n (BE n a x):=by
 unfold BE;split
 .rename_i hx;refine⟨PN h.1,λy b=>?_⟩;rcases pC.1 b with b|rfl
  .exact h.2 y b
  omega
 omega
def yH.fold{n:Int}:∀{l a:List Int},yH n a->yH n (l.foldl (BE n) a)
 |[],a,h=>h
 |x::l,a,h=>yH.fold (l:=l) h.ins
theorem YN{n x:Int}:∀{l a:List Int},x∈l.foldl (BE n) a↔x∈a\/(x∈l/\0<=x/\x<n)
 |[],a=>l5
 |y::l,a=>by
  simp only[Z'];rw[YN (l:=l)];unfold BE;split
  .rename_i hy;rw[pC,Y']
   grind
  grind
theorem kD(s:ek) (d:Int):Ay s d=M (s5 (0<=d)&&s5 (d<(a00 s.d:Int))):=by
 grind[Ay]
def bF(r:ke):List Int:=UC Eh r.ag++UC Eh r.Value
def bN(n d:Int) (a:List Int) (r:ke):List Int:=if r.u=d then(bF r).foldl (BE n) a else a
def Jw(s:ek) (d:Int):List Int:=if 0<=d/\d<(a00 s.d:Int)then s.f.foldl (bN s.d.length d) []else []
structure K! (s:ek):Prop where
 defs:s.d.length<=1048576
 rules:s.f.length<=1048576
 g:∀r∈s.f,a00 r.ag<=1048576/\r.Value.length<=1048576
variable {s:ek}
theorem ar5{r:ke}(h:yH n a):yH n (bN n d a r):=by
 unfold bN;split
 .exact h.fold
 omega
theorem pE{n d:Int}:∀{l:List ke}{a:List Int},yH n a->yH n (l.foldl (bN n d) a)
 |[],a,h=>h
 |r::l,a,h=>pE (l:=l) (ar5 h)
theorem qE(s:ek) (d:Int):yH s.d.length (Jw s d):=by
 grind[Jw,pE,yH.nil]
theorem GK(f:K! s) (hl:l.length<=1099511627776) (ha:yH s.d.length a) {step:List Int×Int->Option (Ex (List Int×Int) (List Int) Unit)}
 (c:∀(a:List Int) (i:Nat) (hi:i<a00 l),step (a,(i:Int))=(b? (α:=List Int) (if(s5 (0<=l[i])&&s5 (l[i]<(a00 s.d:Int)))=a35 then(Ag a l[i]).bind λx=>M x else M a) λj=>M (.go (j,aa .i64 ((i:Int)+1)))))
 (d:∀a,step (a,(a00 l:Int))=M (.brk a)):ca step (a,0)=M (.inl (l.foldl (BE s.d.length) a)):=by
 refine kz l (BE s.d.length) a _ rfl (λi hi=>?_) (d _);have e:=(yH.fold (l:=l.take i) ha).len;have:=f.defs;rw[c _ i hi,pa U];generalize (l.take i).foldl (BE s.d.length) a=b at e⊢;unfold BE;by_cases h:0<=l[i]/\l[i]<(a00 s.d:Int)
 .rw[J l4,J h,sw U];rfl
 grind
theorem kA(b:K! s) (d:Int):Dp s d=M (Jw s d):=by
 unfold Dp Jw;rw[kD,a!];by_cases hd:0<=d/\d<(a00 s.d:Int)
 .rw[p5 l4,J hd];have hl:ca (Bo s d) (([]:List Int),0)=M (.inl (s.f.foldl (bN s.d.length d) [])):=by
   refine kz s.f (bN s.d.length d) [] _ rfl (λi hi=>?_) ?_
   .have c:yH s.d.length ((s.f.take i).foldl (bN s.d.length d) []):=pE yH.nil;have:=b.rules;have j:=b.g _ (y! hi);unfold Bo;simp only;rw[J,wa hi,pa U];generalize (s.f.take i).foldl (bN s.d.length d) []=a at c⊢;generalize s.f[i]=r at j⊢;unfold bN;by_cases h:r.u=d
    .rw[J h,a!,p5,xp U,a!,xp U,a!];have l1:=Us (p:=Eh) (e:=r.ag);have l2:=Us (p:=Eh) (e:=r.Value);have f:ca (Ft s (Ko r.ag)) (a,0)=M (.inl ((UC Eh r.ag).foldl (BE s.d.length) a)):=by
      refine GK b (l:=UC Eh r.ag) U c (λa i hi=>?_) (λa=>?_)
      all_goals simp_all[Ft,Ko,if_pos,wa,a!,kD]
     rw[f,a!];simp only;have b2:ca (Et s (Ko r.Value)) ((UC Eh r.ag).foldl (BE s.d.length) a,0)=M (.inl ((UC Eh r.Value).foldl (BE s.d.length) ((UC Eh r.ag).foldl (BE s.d.length) a))):=by
      refine GK b (l:=UC Eh r.Value) U (yH.fold c) (λa i hi=>?_) (λa=>?_)
      all_goals simp_all[Et,Ko,if_pos,wa,a!,kD]
     grind[bF]
    simp_all
   grind[Bo]
  simp_all
 grind
def rL(s:ek) (d x:Int):Prop:=(0<=d/\d<(a00 s.d:Int))/\(0<=x/\x<(a00 s.d:Int))/\∃r∈s.f,r.u=d/\x∈bF r
theorem KE{x:Int}:x∈Jw s d↔rL s d x:=by
 have key:∀(l:List ke) (a:List Int),x∈l.foldl (bN s.d.length d) a↔x∈a\/(0<=x/\x<(a00 s.d:Int))/\∃r∈l,r.u=d/\x∈bF r:=by
  intro l
  induction l with
  |nil=>simp
  |cons r l b=>
   intro a;simp only[Z'];rw[b];unfold bN;split
   .rename_i hr;rw[YN]
    grind
   simp_all
 unfold Jw rL
 simp_all
end Go.Proofs.Dev
namespace Go.Tm
theorem xG{α:Type} [DecidableEq α]:∀{a b:List α},a.Nodup->(∀x∈a,x∈b)->a.length<=a00 b
 |[],b,_,_=>l5
 |x::a,b,h,hs=>by
  obtain⟨h1,h2⟩:=yac.1 h;have:=xG (a:=a) (b:=b.erase x) h2 λy hy=>by
   grind
  grind
theorem cR{a:List Int}(h:pX a):a.Nodup:=h.imp λh he=>U
end Go.Tm
namespace Go.Proofs.Dev
open Go Go.Tm
variable {a:List Int}{x:ek}{y d:Int}{k n i:Nat}{step:Int->Option (Ex Int Unit Bool)}{α:Type}{q:α->Bool}{v:Int×Int}{e:List fr}{o:Option Bool}
inductive Way (s:ek):Int->Int->Prop
 |one {a b:Int} (h:rL s a b):Way s a b
 |step {a b c:Int} (h:Way s a b) (h2:rL s b c):Way s a c
def trF(s:ek) (a:List Int) (x:Int):List Int:=(Jw s x).foldl cm a
def trR(s:ek) (a:List Int):List Int:=a.foldl (trF s) a
def LF(s:ek) (d:Int):Nat->List Int
 |0=>Jw s d
 |k+1=>trR s (LF s d k)
theorem LJ{n:Int}:∀{l a:List Int},(∀x∈l,0<=x/\x<n)->l.foldl cm a=l.foldl (BE n) a
 |[],a,_=>rfl
 |x::l,a,h=>by
  simp only[Z'];rw[show BE n a x=cm a x from J (h x l5),LJ λy hy=>h y o0]
theorem ac4(s:ek) (a:List Int) (x:Int):trF s a x=(Jw s x).foldl (BE s.d.length) a:=LJ (qE s x).2
theorem ay7{s:ek}{x:Int}(h:yH s.d.length a):yH s.d.length (trF s a x):=by rw[ac4];exact h.fold
theorem ay6{s:ek}{x:Int}:y∈trF s a x↔y∈a\/rL s x y:=by
 rw[ac4,YN];constructor
 .grind[KE]
 .rintro(h|h)
  .simp_all
  .exact .inr ⟨KE.2 h,h.2.1⟩
def vH{s:ek}:∀{l a:List Int},yH s.d.length a->yH s.d.length (l.foldl (trF s) a)
 |[],a,h=>h
 |x::l,a,h=>vH (l:=l) (ay7 h)
theorem zA{s:ek}{y:Int}:∀{l a:List Int},y∈l.foldl (trF s) a↔y∈a\/∃x∈l,rL s x y
 |[],a=>l5
 |x::l,a=>by
  simp only[Z'];rw[zA (l:=l),ay6]
  grind
def nB(s:ek) (d:Int):∀k,yH s.d.length (LF s d k)
 |0=>qE s d
 |k+1=>vH (nB s d k)
theorem vK{s:ek}{d y:Int}:∀{k:Nat},y∈LF s d k->Way s d y
 |0,h=>.one (KE.1 h)
 |k+1,h=>by
  rcases zA.1 h with h|⟨x,a,h2⟩
  .exact vK h
  .exact .step (vK a) h2
def sP{s:ek}(h:y∈LF s d k):y∈LF s d (k+1):=zA.2 (.inl h)
theorem gX{s:ek}{d y:Int}(h:rL s d y):∀k,y∈LF s d k
 |0=>KE.2 h
 |k+1=>sP (gX h k)
def bs6(s:ek) (a:List Int):Prop:=∀x∈a,∀y,rL s x y->y∈a
open Classical in
theorem iX{s:ek}{d:Int}:∀k,bs6 s (LF s d k)\/k+1<=(LF s d k).length
 |0=>by
  cases h:LF s d 0 with
  |nil=>exact .inl λx hx=>by simp at hx
  |cons x l=>exact .inr l5
 |k+1=>by
  by_cases hc:bs6 s (LF s d k)
  .refine .inl λx hx y g=>?_;have c:x∈LF s d k:=by
    rcases zA.1 hx with h|⟨z,n,h2⟩
    .exact h
    .exact hc z n x h2
   exact sP (hc x c y g)
  .rcases iX k with h|h
   .exact(hc h).elim
   .right;obtain⟨x,hx⟩:=iae.1 hc;obtain⟨e,f⟩:=Cae.1 hx;obtain⟨y,g⟩:=iae.1 f;obtain⟨i,j⟩:=Cae.1 g;have:=xG (a:=y::LF s d k) (b:=LF s d (k+1)) (yac.2 ⟨j,cR (nB s d k).1⟩) λz m=>by
     rcases Y'.1 m with rfl|m
     .exact zA.2 (.inr ⟨x,e,i⟩)
     .exact sP m
    simp only[List.length_cons]at this;omega
theorem ac3(s:ek) (d:Int):bs6 s (LF s d s.d.length):=by
 rcases iX (s:=s) (d:=d) s.d.length with h|h
 .exact h
 .have:=(nB s d s.d.length).len;omega
theorem ZA{s:ek}:y∈LF s d s.d.length↔Way s d y:=by
 constructor
 .exact vK
 .intro h
  induction h with
  |one h=>grind[gX]
  |step h h2 a=>exact ac3 s d _ a _ h2
theorem Ep{s:ek}(f:K! s) (d:Int):Yf s d=M (LF s d s.d.length):=by
 unfold Yf;have hn:=f.defs;have round:∀a,yH s.d.length a->ca (ui s a) (a,0)=M (.inl (trR s a)):=by
  intro a ha;have:=ha.len;refine kz a (trF s) a _ rfl (λi hi=>?_) (by grind[ui,trR]);have e:yH s.d.length ((a.take i).foldl (trF s) a):=vH ha;unfold ui;simp only;rw[J,wa hi,a!,kA f,a!,pa U];generalize (a.take i).foldl (trF s) a=b at e⊢;have hd:=(qE s a[i]).len;have hb:ca (ti (Jw s a[i])) (b,0)=M (.inl ((Jw s a[i]).foldl cm b)):=by
   refine kz (Jw s a[i]) cm b _ rfl (λk hk=>?_) (by grind[ti]);have c:yH s.d.length (((Jw s a[i]).take k).foldl cm b):=by
    rw[LJ λx hx=>(qE s a[i]).2 x (List.mem_of_mem_take hx)];exact e.fold
   have:=c.len;unfold ti;simp only;rw[J,wa hk,a!,sw U,a!,pa U]
  rw[hb,a!];rfl
 have hl:ca (vi s) (Jw s d,0)=M (.inl (LF s d s.d.length)):=by
  refine Uc (λi=>(LF s d i,(i:Int))) s.d.length _ (λi hi=>?_) (by grind[vi]) rfl;unfold vi;simp only;rw[J,round _ (nB s d i),a!,pa U];rfl
 grind[kA]
def AL(n:Int) (l:List Int):List Int:=l.filter λx=>s5 (0<=x)&&s5 (x<n)
theorem KQ{n:Int}{l:List Int}(h:a.length+a00 l<=1099511627776) {step:List Int×Int->Option (Ex (List Int×Int) (List Int) Unit)}
 (hstep:∀(a:List Int) (i:Nat) (hi:i<a00 l),step (a,(i:Int))=(b? (α:=List Int) (if(s5 (0<=l[i])&&s5 (l[i]<n))=a35 then(app 8 a [l[i]]).bind λx=>M x else M a) λj=>M (.go (j,aa .i64 ((i:Int)+1)))))
 (hend:∀a,step (a,(a00 l:Int))=M (.brk a)):ca step (a,0)=M (.inl (a++AL n l)):=by
 refine Uc (λi=>(a++AL n (l.take i),(i:Int))) l.length _ (λi hi=>?_) ?_ (by simp[AL])
 .have hlen:(AL n (l.take i)).length<=i:=by
   grind[AL]
  have ht:AL n (l.take (i+1))=AL n (l.take i)++(if(s5 (0<=l[i])&&s5 (l[i]<n))=a35 then [l[i]]else []):=by
   grind[AL,O']
  grind[pa,me]
 simp_all
theorem cy{r:ke}(h:r.ag.length<=1048576/\r.Value.length<=1048576) (n:Int):Af r n=M (AL n (UC Eh r.ag)++AL n (UC Eh r.Value)):=by
 unfold Af;have l1:=Us (p:=Eh) (e:=r.ag);have l2:=Us (p:=Eh) (e:=r.Value);have l3:(AL n (UC Eh r.ag)).length<=(UC Eh r.ag).length:=Ο _ _;rw[Vq U,a!,Vq U,a!];have b:ca (Zg n (Ko r.ag)) (([]:List Int),0)=M (.inl ([]++AL n (UC Eh r.ag))):=by
  refine KQ (l:=UC Eh r.ag) o0 (λa i hi=>?_) (λa=>?_)
  .unfold Zg Ko;simp only;rw[J,wa hi,a!]
   grind
  grind[Zg,Ko]
 rw[b,a!];simp only[List.nil_append];have b2:ca (Yg n (Ko r.Value)) (AL n (UC Eh r.ag),0)=M (.inl (AL n (UC Eh r.ag)++AL n (UC Eh r.Value))):=by
  refine KQ (l:=UC Eh r.Value) U (λa i hi=>?_) (λa=>?_)
  .unfold Yg Ko;simp only;rw[J,wa hi,a!]
   grind
  grind[Yg,Ko]
 simp_all
theorem R?{α β:Type}{f:α->Option β}(g:α->β):∀{l:List α},(∀x∈l,f x=M (g x))->l.mapM f=M (l.map g)
 |[],_=>rfl
 |x::l,h=>by
  rw[List.mapM_cons,h x l5,R? g λy hy=>h y o0];rfl
def Fl(s:ek):List (List Int):=
 (o? s.d.length).map λ(d:Nat)=>Vd ((s.f.filter λ(r:ke)=>r.u==(d:Int)).map λr=>AL s.d.length (UC Eh r.ag)++AL s.d.length (UC Eh r.Value)).flatten
theorem Ts{s:ek}(a:K! s):Yc s=M (Fl s):=by
 unfold Yc Fl;rw[J ⟨a.defs,a.rules,a.g⟩];refine R? _ λd _=>?_;rw[R? (λr=>AL s.d.length (UC Eh r.ag)++AL s.d.length (UC Eh r.Value)) λr hr=>cy (a.g r (mac.1 hr).1) _];rfl
theorem IE{s:ek}{l:List Int}(h0:0<=d) (h:(Fl s)[d.toNat]?=M l) (x:Int):x∈l↔rL s d x:=by
 unfold Fl at h;rw[List.getElem?_map]at h;by_cases hd:d.toNat<a00 s.d
 .rw[List.getElem?_range hd]at h;simp only[Option.map_some,T!]at h;subst h;rw[(Mf _).2.2];simp only[List.mem_flatten,X',mac,R2,rL,bF,AL]
  grind
 simp_all
theorem Mn(s:ek):(Fl s).length=a00 s.d:=by simp[Fl]
theorem p9{s:ek}{a b:Int}(f:0<=a):I' (Fl s) a b↔Way s a b:=by
 constructor
 .intro h;have key:∀{b:Int},I' (Fl s) a b->Way s a b/\0<=b:=by
   intro b h
   induction h with
   |one h hb=>exact have:=(IE f h _).1 hb;⟨.one this,this.2.1.1⟩
   |step h hl hc e=>exact have:=(IE e.2 hl _).1 hc;⟨.step e.1 this,this.2.1.1⟩
  simp_all
 .intro h;have get:∀{d x:Int},rL s d x->∃l,(Fl s)[d.toNat]?=M l/\x∈l:=by
   intro d x hd;have c:d.toNat<(Fl s).length:=by rw[Mn];have:=hd.1;omega
   exact⟨_,n! c,(IE hd.1.1 (n! c) x).2 hd⟩
  induction h with
  |one h=>obtain⟨l,g,h2⟩:=get h;exact .one g h2
  |step h h2 e=>obtain⟨l,i,j⟩:=get h2;exact .step e i j
theorem rS{l:List Int}(hl:l.length<=1099511627776) (d:Int):bg l d=M (s5 (d∈l)):=by
 have h:=Tw (l:=l) (p:=λx=>M (s5 (d=x))) (λx=>s5 (d=x)) (λx _=>rfl) U (o:=ca (Vi l d) 0) (by
  unfold Vi;simp)
 have h':bg l d=M (l.any λx=>s5 (d=x)):=h
 grind
open Classical in
theorem Vl{s:ek}(c:K! s) (d:Int):∃l,Xc s d=M l/\l.length<=1048576/\∀x,x∈l↔Way s d x:=by
 unfold Xc;by_cases hd:0<=d/\d<(a00 s.d:Int)
 .have hn:=c.defs;refine⟨tO (Fl s) d,?_,?_,?_⟩
  .rw[J,a!,p5 aaH,Ts c,a!];unfold Wl;rw[if_pos]
   .rfl
   .refine⟨by rw[Mn];omega,λl hl=>?_,hd.1,by rw[Mn];exact hd.2⟩;obtain⟨i,hi,rfl⟩:=H' hl;have hm:=λx=>IE (s:=s) (d:=(i:Int)) (l:=(Fl s)[i]) U (by rw[Int.toNat_natCast];exact n! hi) x;have hb:∀x∈(Fl s)[i],0<=x/\x<((Fl s).length:Int):=λx hx=>by rw[Mn];exact((hm x).1 hx).2.1
    refine⟨?_,hb⟩;have a:pX (Fl s)[i]:=by simp only[Fl,List.getElem_map];exact(Mf _).1
    have:=mM a hb;rw[Mn]at this;omega
  .have e:=Ο (λb=>@decide (I' (Fl s) d b) (Classical.propDecidable _)) ((o? (Fl s).length).map λ(k:Nat)=>(k:Int));unfold tO;simp only[List.length_map,List.length_range,Mn]at e⊢;omega
  .intro x;unfold tO;rw[mac,Mn,X',w2,p9 hd.1];constructor
   .exact λh=>h.2
   .intro h;refine⟨?_,h⟩;have:0<=x/\x<(a00 s.d:Int):=by cases h with|one h=>exact h.2.1|step _ h=>exact h.2.1
    exact⟨x.toNat,aaH,U⟩
 .refine⟨[],?_,l5,λx=>?_⟩
  .have:(if¬d<0 then M (s5 ((a00 s.d:Int)<=d))else M a35)=M a35:=by
    by_cases h:d<0
    .rw[p5]
    .rw[J h,s6 U]
   rw[this];rfl
  .constructor
   .intro h;simp at h
   .intro h;exfalso;apply hd;clear hd
    induction h with
    |one h=>exact h.1
    |step h h2 f=>exact f
structure m? (l:cb):Prop where
 ne:l.r.length<=1048576
 nt:l.Tables.length<=1048576
 ns:l.e.length<=1048576
 e:∀x∈l.r,x.n.size<=1048576/\∀m∈x.s,m.size<=1048576
 t:∀x∈l.Tables,x.n.size<=1048576
 s:∀x∈l.e,x.n.size<=1048576/\K! x/\x.w.length<=1048576/\(∀f∈x.w,f.n.size<=1048576)/\(∀f∈x.d,f.n.size<=1048576)/\
  (∀r∈x.f,r.n.size<=1048576/\r.a4.size<=1048576/\(∀n∈r.ag,Zb n)/\∀n∈r.Value,Zb n)
theorem oU{ρ:Type}{l:List α}(hk:k<=a00 l) {g:Nat->ρ}:(ff (λi=>if i<k/\(l[i]?.any q)=a35 then M (g i)else q6) l.length).isSome=(l.take k).any q:=by
 rw[←Rv (l:=l.take k) (q:=q) (g:=g)];have h:∀m,k<=m->ff (λi=>if i<k/\(l[i]?.any q)=a35 then M (g i)else q6) m=ff (λi=>if((l.take k)[i]?.any q)=a35 then M (g i)else q6) k:=by
  intro m hm
  cases h1:ff (λi=>if((l.take k)[i]?.any q)=a35 then M (g i)else q6) k with
  |none=>
   grind[Xa]
  |some v=>
   grind[Oa]
 simp_all
theorem zu{l:List α}(hl:l.length<=1048576) (hk:k<=a00 l) 
 (a:∀(i:Nat) (hi:i<a00 l),step (i:Int)=if i<k/\q l[i]=a35 then M (.ret a35)else M (.go ((i+1:Nat):Int))) (b:step (a00 l:Int)=M (.brk ())) :
 ca step 0=M (if(l.take k).any q=a35 then .inr a35 else .inl ()):=by
 have c:=xb (step:=step) (x0:=0) (λi=>(i:Int)) (λi=>if i<k/\(l[i]?.any q)=a35 then M a35 else q6) l.length () (λi hi _=>by
  rw[a i hi,n! hi,qac];by_cases h:i<k/\q l[i]=a35
  .rw[J h,J h];rfl
  .rw[p5 h,p5 h];rfl) (λ_=>b)
 rw[c,←oU (q:=q) (g:=λ_=>a35) hk]
 cases hf:ff (λi=>if i<k/\(l[i]?.any q)=a35 then M a35 else q6) l.length with
 |none=>rfl
 |some v=>
  obtain⟨i,-,h2,-⟩:=Oa.1 hf;split at h2
  .injection h2 with h2;subst h2;rfl
  simp_all
def iH(hn:n<=1048576) (a:∀i:Nat,i<n->step (i:Int)=M (.go ((i+1:Nat):Int))) (b:step (n:Int)=M (.brk ())):ca step 0=M (.inl ()):=
 Uc (λi=>(i:Int)) n () (λi hi=>a i hi) b
theorem ba8{l:cb}(h:m? l) (hi:i<=a00 l.r) (nm:ByteArray):jd l 1 (i:Int) nm=M ((l.r.take i).any λx=>s5 (x.n=nm)):=by
 have a:=h.ne;have c:=h.nt;have b:=h.ns;unfold jd;have h1:ca (Qc l 1 (i:Int) nm) 0=M (if(l.r.take i).any (λx=>s5 (x.n=nm))=a35 then .inr a35 else .inl ()):=zu a hi (λk hk=>by
  unfold Qc;rw[J,wa hk,pa U]
  grind) (by grind[Qc])
 have h2:ca (wb l 1 (i:Int) nm) 0=M (.inl ()):=iH c (λk hk=>by
  unfold wb;rw[J,pa U];simp) (by grind[wb])
 have h3:ca (Lb l 1 (i:Int) nm) 0=M (.inl ()):=iH b (λk hk=>by
  unfold Lb;rw[J,pa U];simp) (by grind[Lb])
 grind
theorem mU{l:cb}(h:m? l) {t i:Int}(ht:1<t) (nm:ByteArray):ca (Qc l t i nm) 0=M (if l.r.any (λx=>s5 (x.n=nm))=a35 then .inr a35 else .inl ()):=by
 have a:=h.ne;have:=zu (l:=l.r) (q:=λx=>s5 (x.n=nm)) (k:=a00 l.r) (step:=Qc l t i nm) a (x? _) (λk hk=>by
  unfold Qc;rw[J,wa hk,pa U,p5]
  simp_all) (by grind[Qc])
 simp_all
theorem ba7{l:cb}(h:m? l) (hi:i<=a00 l.Tables) (nm:ByteArray):jd l 2 (i:Int) nm=M ((l.r.any λx=>s5 (x.n=nm)) || (l.Tables.take i).any λx=>s5 (x.n=nm)):=by
 have hne:=h.ne;have b:=h.nt;have a:=h.ns;unfold jd;have h2:ca (wb l 2 (i:Int) nm) 0=M (if(l.Tables.take i).any (λx=>s5 (x.n=nm))=a35 then .inr a35 else .inl ()):=zu b hi (λk hk=>by
  unfold wb;rw[J,wa hk,pa U]
  grind) (by grind[wb])
 have h3:ca (Lb l 2 (i:Int) nm) 0=M (.inl ()):=iH a (λk hk=>by
  unfold Lb;rw[J,pa U];simp) (by grind[Lb])
 grind[mU]
theorem ba6{l:cb}(h:m? l) (hi:i<=a00 l.e) (nm:ByteArray):jd l 3 (i:Int) nm=M ((l.r.any λx=>s5 (x.n=nm)) || ((l.Tables.any λx=>s5 (x.n=nm)) || (l.e.take i).any λx=>s5 (x.n=nm))):=by
 have hne:=h.ne;have b:=h.nt;have a:=h.ns;unfold jd;have h2:ca (wb l 3 (i:Int) nm) 0=M (if l.Tables.any (λx=>s5 (x.n=nm))=a35 then .inr a35 else .inl ()):=by
  have:=zu (l:=l.Tables) (q:=λx=>s5 (x.n=nm)) (k:=a00 l.Tables) (step:=wb l 3 (i:Int) nm) b (x? _) (λk hk=>by
   unfold wb;rw[J,wa hk,pa U]
   simp_all) (by grind[wb])
  simp_all
 have c:ca (Lb l 3 (i:Int) nm) 0=M (if(l.e.take i).any (λx=>s5 (x.n=nm))=a35 then .inr a35 else .inl ()):=zu a hi (λk hk=>by
  unfold Lb;rw[J,wa hk,pa U]
  grind) (by grind[Lb])
 rw[mU h U,h2,c]
 grind
theorem IJ{l:List na}(hl:l.length<=1048576) (nm:ByteArray):Pr l nm=M (l.any λx=>s5 (x.n=nm)):=by
 have h:=Tw (l:=l) (p:=λx=>ki x nm) (λx=>s5 (x.n=nm)) (λx _=>rfl) U (o:=ca (Ce l (λx=>ki x nm)) 0) rfl;have h':ub l (λx=>ki x nm)=M (l.any λx=>s5 (x.n=nm)):=h
 grind[Pr]
theorem NN{l:List oe}(hl:l.length<=1048576) (nm:ByteArray):bt l nm=M (l.any λx=>s5 (x.n=nm)):=by
 have h:=Tw (l:=l) (p:=λx=>Og x nm) (λx=>s5 (x.n=nm)) (λx _=>rfl) U (o:=ca (Pd l (λx=>Og x nm)) 0) rfl;have h':ib l (λx=>Og x nm)=M (l.any λx=>s5 (x.n=nm)):=h
 grind[bt]
theorem OY{l:List ek}(hl:l.length<=1048576) (y:ek):gb l (λx=>Re x y)=M (l.any λx=>s5 (x.n=y.n)):=
 Tw (l:=l) (p:=λx=>Re x y) (λx=>s5 (x.n=y.n)) (λx _=>rfl) U (o:=ca (Od l (λx=>Re x y)) 0) rfl
theorem MN{l:List ml}(hl:l.length<=1048576) (y:ml):Pa l (λx=>Gd x y)=M (l.any λx=>s5 (x.n=y.n)):=
 Tw (l:=l) (p:=λx=>Gd x y) (λx=>s5 (x.n=y.n)) (λx _=>rfl) U (o:=ca (Nd l (λx=>Gd x y)) 0) rfl
theorem q8{l:List ke}(hl:l.length<=1048576) (y:ke):vb l (λx=>Tf x y)=M (l.any λx=>s5 (x.n=y.n)):=
 Tw (l:=l) (p:=λx=>Tf x y) (λx=>s5 (x.n=y.n)) (λx _=>rfl) U (o:=ca (De l (λx=>Tf x y)) 0) rfl
theorem ao4{l:List ByteArray}(hl:l.length<=1048576) (y:ByteArray):Xe l y=M (l.any λx=>s5 (x=y)):=by
 have h:=Tw (l:=l) (p:=λx=>M (s5 (y=x))) (λx=>s5 (x=y)) (λx _=>o0) U (o:=ca (Ye l y) 0) (by
  unfold Ye;simp)
 exact h
noncomputable def IL(x:na) (k:Nat):Option (Int×Int):=
 match x.s[k]? with
 |some m=>if Xn m=a36 then M (2,100+(k:Int))else if((x.s.take k).any λy=>s5 (y=m))=a35 then M (7,100+(k:Int))else q6
 |none=>q6
noncomputable def Dh(l:cb) (i:Nat) (x:na):Int×Int:=
 if Xn x.n=a36 then(2,0)else if((l.r.take i).any λy=>s5 (y.n=x.n))=a35 then(7,0)
 else if x.s.length=0 then(5,0)else if 16<a00 x.s then(4,116)else(ff (IL x) x.s.length).getD (0,0)
theorem aI9{x:na}(h:IL x k=M v):v.1≠0:=by
 grind[IL]
theorem CL{l:cb}(h:m? l) (hi:i<a00 l.r):au l (i:Int) l.r[i]=M (Dh l i l.r[i]):=by
 obtain⟨g1,g2⟩:=h.e _ (y! hi);have hne:=h.ne;generalize l.r[i]=x at g1 g2⊢;unfold au Dh;rw[jv U,a!];cases Xn x.n
 .rfl
 simp only[t!,O!,s7];rw[mB U,a!,IJ o0,a!];cases (l.r.take i).any λy=>s5 (y.n=x.n)
 .simp only[t!,O!,s7];by_cases b:x.s.length=0
  .simp_all
  rw[p5,p5 b];by_cases a:16<a00 x.s
  .grind
  rw[p5,p5 a];have hl:ca (Zn x) 0=M (Ib () (ff (IL x) x.s.length)):=
   xb (λk=>(k:Int)) _ _ _ (λk hk _=>by
    have hm:=g2 _ (y! hk);unfold Zn IL;rw[J,wa hk,a!,jv U,a!,n! hk,g! (n:=100+(k:Int)) U U,pa U,mB U,a!,ao4 o0,a!];simp only;cases Xn x.s[k]
    .rfl
    .simp only[t!,O!,s7];cases (x.s.take k).any λy=>s5 (y=x.s[k])<;>rfl) (λ_=>by grind[Zn])
  rw[hl];cases ff (IL x) x.s.length<;>rfl
 .rfl
theorem CI{l:cb}(h:m? l) (hi:i<a00 l.r):pq l (i:Int)=M (if(Dh l i l.r[i]).1=0 then⟨0,0,0,0⟩else⟨(Dh l i l.r[i]).1,1,i,(Dh l i l.r[i]).2⟩):=by
 obtain⟨g1,g2⟩:=h.e _ (y! hi);have hne:=h.ne;unfold pq Dh;rw[wa hi,a!];generalize l.r[i]=x at g1 g2⊢;rw[Ur U,a!,ba8 h U,a!];cases Xn x.n
 .rfl
 simp only[t!,O!,s7];cases (l.r.take i).any λy=>s5 (y.n=x.n)
 .simp only[t!,O!,s7];by_cases m:x.s.length=0
  .simp_all
  rw[p5,p5 m];by_cases c:16<a00 x.s
  .grind
  rw[p5,p5 c];have hl:ca (Jk (i:Int) x) (0,0)=M (Ib () ((ff (IL x) x.s.length).map λv=>(⟨v.1,1,(i:Int),v.2⟩:ll))):=by
   have d:(ff (IL x) x.s.length).map (λv=>(⟨v.1,1,(i:Int),v.2⟩:ll))=ff (λk=>(IL x k).map λv=>(⟨v.1,1,(i:Int),v.2⟩:ll)) x.s.length:=by
    cases b:ff (IL x) x.s.length with
    |none=>grind[Xa]
    |some v=>grind[Oa]
   rw[d];refine xb (λk=>((if k=0 then 0 else 100+((k-1:Nat):Int)),(k:Int))) _ _ _ (λk hk _=>?_) (λ_=>by grind[Jk]) (by rfl);have hm:=g2 _ (y! hk);unfold Jk IL;simp only;rw[J,wa hk,a!,Ur U,a!,n! hk,g! (n:=100+(k:Int)) U U,pa U];have f:ca (Ik (i:Int) x (k:Int) x.s[k]) 0=M (Ib () (ff (λj=>if((x.s.take k)[j]?.any λy=>s5 (y=x.s[k]))=a35 then M (l? (⟨7,1,(i:Int),100+(k:Int)⟩:ll))else q6) (x.s.take k).length)):=
    xb (λj=>(j:Int)) _ _ _ (λj hj _=>by
     have hjk:j<k:=o0
     unfold Ik;rw[J,wa U,a!,n! hj,g! (n:=100+(k:Int)) U U,pa U];simp only[qac,Yac,w2];by_cases he:x.s[j]=x.s[k]
     .rw[J he,J he];rfl
     .rw[p5 he,p5 he];rfl) (λ_=>by
      grind[Ik])
   dsimp only;cases Xn x.s[k]
   .rfl
   simp only[t!,O!,s7];rw[f,a!,←Rv (l:=x.s.take k) (q:=λy=>s5 (y=x.s[k])) (g:=λ_=>(l? (⟨7,1,(i:Int),100+(k:Int)⟩:ll):Ex (Int×Int) Unit ll))]
   cases b:ff (λj=>if((x.s.take k)[j]?.any λy=>s5 (y=x.s[k]))=a35 then M (l? (⟨7,1,(i:Int),100+(k:Int)⟩:ll):Ex (Int×Int) Unit ll)else q6) (x.s.take k).length with
   |none=>simp[Ib,UD]
   |some v=>
    obtain⟨j,j1,a,-⟩:=Oa.1 b;split at a
    .injection a with a;subst a;rfl
    simp_all
  rw[hl]
  cases b:ff (IL x) x.s.length with
  |none=>rfl
  |some v=>
   grind[Ib,Oa,aI9]
 .rfl
noncomputable def mr(l:cb) (i:Nat) (x:oe):Int×Int:=
 if Xn x.n=a36 then(2,0)
 else if((l.r.any λy=>s5 (y.n=x.n)) || (l.Tables.take i).any λy=>s5 (y.n=x.n))=a35 then(7,0)
 else if(Tu x l.r).2=0 then(0,0)else((Tu x l.r).2,if(Tu x l.r).1 = -1 then 0 else 100+(Tu x l.r).1)
theorem nP(t:oe) (e:List na):-1<=(Tu t e).1/\(Tu t e).1<=64:=by
 unfold Tu;split
 .simp
 .split
  .simp
  .cases h:ff (nK t e) t.Rows.length with
   |none=>simp
   |some v=>
    grind[nK,Oa]
theorem F8{l:cb}(h:m? l):ca (qk l) 0=M (Ib () (ff (λi=>match l.Tables[i]? with|some x=>if(mr l i x).1=0 then q6 else M (⟨(mr l i x).1,2,(i:Int),(mr l i x).2⟩:ll)|none=>q6) l.Tables.length)):=by
 have hnt:=h.nt;have a:=h.ne;refine xb (λk=>(k:Int)) _ _ _ (λi hi _=>?_) (λ_=>by grind[qk]);have hx:=h.t _ (y! hi);unfold qk mr;rw[J,wa hi,a!,n! hi,pa U];simp only;generalize l.Tables[i]=x at hx⊢;have hr:=nP x l.r;rw[qK,a!,jv U,a!,IJ a,a!,mB U,a!,NN o0,g! (n:=100+(Tu x l.r).1) U U]
 grind[UD]
theorem oH{l:cb}(h:m? l) (hi:i<a00 l.Tables):Io l (i:Int)=M (if(mr l i l.Tables[i]).1=0 then⟨0,0,0,0⟩else⟨(mr l i l.Tables[i]).1,2,i,(mr l i l.Tables[i]).2⟩):=by
 have hnt:=h.nt;have hne:=h.ne;have hx:=h.t _ (y! hi);unfold Io mr;rw[wa hi,a!];generalize l.Tables[i]=x at hx⊢;have hr:=nP x l.r;rw[Ur U,a!,ba7 h U,a!,cK,a!,g! (n:=100+(Tu x l.r).1) U U]
 grind
noncomputable def Tz(l:cb) (f:ml) (a b:List ml):Int:=
 if Xn f.n=a36 then 2 else if((a.any λy=>s5 (y.n=f.n)) || b.any λy=>s5 (y.n=f.n))=a35 then 7 else if la f.an l.r=a36 then 8 else 0
theorem jC{l:cb}{f:ml}{a b:List ml}(hf:f.n.size<=1048576) (ha:a.length<=1048576) (hb:b.length<=1048576):bo l f a b=M (Tz l f a b):=by
 unfold bo Tz;rw[jv U,a!,MN ha,a!,MN hb,Ra,a!]
 grind
theorem yx{l:List ml}(hl:l.length<=1048576) (hk:k<=a00 l) (nm:ByteArray):Kk l (k:Int) nm=M ((l.take k).any λy=>s5 (y.n=nm)):=by
 unfold Kk;have b:ca (Hm l (k:Int) nm) 0=M (Ib () (ff (λi=>if((l.take k)[i]?.any λy=>s5 (y.n=nm))=a35 then M a35 else q6) (l.take k).length)):=
  xb (λi=>(i:Int)) _ _ _ (λi hi _=>by
   have hik:i<k:=l4
   unfold Hm;rw[J,a!,s6 U,J rfl,wa U,a!,n! hi,pa U];simp only[qac,Yac,w2];by_cases he:l[i].n=nm
   .rw[J he,J he];rfl
   .rw[p5 he,p5 he];rfl) (λ_=>by
    simp_all[Hm])
 rw[b,←Rv (q:=λ(y:ml)=>s5 (y.n=nm)) (g:=λ_=>a35),a!]
 cases h2:ff (λi=>if((l.take k)[i]?.any λy=>s5 (y.n=nm))=a35 then M a35 else q6) (l.take k).length with
 |none=>rfl
 |some v=>
  obtain⟨j,j1,a,-⟩:=Oa.1 h2;split at a
  .injection a with a;subst a;rfl
  simp_all
theorem zL{l:List ml}(hl:l.length<=1048576) {step:List ej×Int->Option (Ex (List ej×Int) (List ej) Unit)}
 (hstep:∀(a:List ej) (i:Nat) (hi:i<a00 l),step (a,(i:Int))=((app 16 a [l[i].an]).bind λx=>M (.go (x,aa .i64 ((i:Int)+1)))))
 (hend:∀a,step (a,(a00 l:Int))=M (.brk a)):ca step (([]:List ej),0)=M (.inl (l.map (·.an))):=by
 refine Uc (λi=>((l.take i).map (·.an),(i:Int))) l.length _ (λi hi=>?_) l4 l5
 grind[me,pa,O']
theorem ox{l:List ml}(hl:l.length<=1048576):rk l=M (l.map (·.an)):=by
 unfold rk;rw[zL hl (step:=rm l) (λa i hi=>by simp_all[rm,wa]) (λa=>by grind[rm])];rfl
def QI(l:cb) (s:ek):om:=
 if h:0<=s.ac/\s.ac<(a00 l.e:Int)then⟨l.r,l.Tables,s.w.map (·.an),s.d.map (·.an),(l.e[s.ac.toNat]' U).d.map (·.an),a35⟩
 else⟨l.r,l.Tables,s.w.map (·.an),s.d.map (·.an),[],a36⟩
theorem Mw{l:cb}(h:m? l) (hi:i<a00 l.e):Hg l (i:Int)=M (QI l l.e[i]):=by
 obtain⟨g1,g2,g3,-⟩:=h.s _ (y! hi);have gd:=g2.defs;unfold Hg QI;rw[wa hi,a!];generalize l.e[i]=x at gd g3⊢;rw[ox g3,a!,ox gd,a!];by_cases hm:0<=x.ac/\x.ac<(a00 l.e:Int)
 .have hd:=(h.s _ (y! (l:=l.e) (n:=x.ac.toNat) U)).2.1.defs
  simp_all[Nh,ox]
 grind
theorem BI{l:cb}(h:m? l) (hi:i<a00 l.e):oq l (i:Int)=M (QI l l.e[i]):=by
 rw[←Mw h hi];unfold oq Hg;rw[J,a!,p5 l4];rfl
def TI(s:ByteArray) (i:Nat):Bool:=if h:i<s.size then s5 (32<=(s[i].toNat:Int))&&s5 ((s[i].toNat:Int)<=126)&&!((s[i].toNat:Int)==34)else a35
def RZ(s:ByteArray):Bool:=s5 (s.size<=64)&&(ff (λi=>if TI s i=a35 then q6 else M a36) s.size).isNone
theorem DI{s:ByteArray}(hs:s.size<=1048576):qq s=M (RZ s):=by
 unfold qq RZ;have a:ca (Mk s) 0=M (Ib () (ff (λi=>if TI s i=a35 then q6 else M a36) s.size)):=
  xb (λi=>(i:Int)) _ _ _ (λi hi _=>by
   unfold Mk TI;rw[J,HR hi,a!,pa U,dif_pos hi]
   grind[UD]) (λ_=>by grind[Mk])
 rw[a]
 cases h2:ff (λi=>if TI s i=a35 then q6 else M a36) s.size with
 |none=>
  grind[decide,Ib]
 |some v=>
  grind[Ib,Oa]
theorem L8{s:ByteArray}{c:UInt8}:s.data.toList.contains c=a35↔∃i,∃h:i<s.size,s[i]=c:=by
 rw[List.contains_iff_mem];constructor
 .intro h;obtain⟨i,hi,he⟩:=H' h;exact⟨i,by simpa using hi,by rw[←he];rfl⟩
 .rintro⟨i,hi,rfl⟩;exact y! (l:=s.data.toList) (n:=i) l4
theorem kI{s:ByteArray}(hs:s.size<=1048576):Up s=M (RZ s):=by
 unfold Up RZ w!;rw[J (show(n? #[34]).size=1 from rfl)];by_cases h64:64<s.size
 .grind
 rw[J,s6 (p:=s.size<=64) U];have d:ca (uk s) 0=M (Ib () (ff (λi=>if(if h:i<s.size then s5 (32<=(s[i].toNat:Int))&&s5 ((s[i].toNat:Int)<=126)else a35)=a35 then q6 else M a36) s.size)):=
  xb (λi=>(i:Int)) _ _ _ (λi hi _=>by
   unfold uk;rw[J,HR hi,a!,pa U,dif_pos hi]
   grind[UD]) (λ_=>by grind[uk])
 rw[d];simp only[a!,Μ];have hc:=L8 (s:=s) (c:=34);change (s.data.toList.contains ((n? #[34]).data.toList.headD 0))=a35↔_ at hc;have h34:∀i (h:i<s.size),s[i]=34↔(s[i].toNat:Int)=34:=λi h=>by
  constructor
  .simp_all
  .intro he;apply UInt8.toNat_inj.1
   grind
 cases hq:s.data.toList.contains ((n? #[34]).data.toList.headD 0)
 .rw[hq]at hc;have hno:∀i (h:i<s.size),(s[i].toNat:Int)≠34:=λi h he=>by
   simp_all
  rw[p5 l5];have b:ff (λi=>if(if h:i<s.size then s5 (32<=(s[i].toNat:Int))&&s5 ((s[i].toNat:Int)<=126)else a35)=a35 then q6 else M a36) s.size=ff (λi=>if TI s i=a35 then q6 else M a36) s.size:=by
   simp_all[TI]
  rw[b]
  cases h2:ff (λi=>if TI s i=a35 then q6 else M a36) s.size with
  |none=>rfl
  |some v=>
   obtain⟨j,j1,a,-⟩:=Oa.1 h2;split at a
   .grind
   .injection a with a;subst a;rfl
 .obtain⟨i,hi,he⟩:=hc.1 hq;rw[J rfl]
  cases h2:ff (λi=>if TI s i=a35 then q6 else M a36) s.size with
  |some v=>rfl
  |none=>
   simp_all[TI,Xa]
noncomputable def cJ(e:List fr) (s:om) (t:ej):Int:=
 if¬(oB e s).2.2=0 then(oB e s).2.2 else if¬((oB e s).1.a=t.a/\(oB e s).1.g=t.g)then 8 else 0
theorem AD(hN:∀n∈e,Zb n) (s:om) (t:ej):Cq e s t=M (cJ e s t):=by
 grind[Cq,cJ,UP]
theorem iB(hN:∀n∈e,Zb n) (s:om) (t:ej):Ll e s t=M (cJ e s t):=by
 grind[Ll,cJ,zO]
def oK(x:ek) (k:Nat) (r:ke):Nat:=((x.f.take k).filter λy=>s5 (y.u=r.u)).length
theorem D5(x:ek) (k:Nat) (r:ke):oK x k r<=k:=by
 grind[oK]
theorem GR{r:ke}(hk:k<a00 x.f):oK x (k+1) r=if x.f[k].u=r.u then oK x k r+1 else oK x k r:=by
 unfold oK;rw[O',n! hk,ι,List.length_append]
 grind
def nO(x:ek) (k:Nat) (r:ke):Bool:=
 if r.al = -1 then a36 else if r.al<0 then a35 else if(k:Int)<=r.al then a35 else match x.f[r.al.toNat]? with|some q=>q.u !=r.u|none=>a35
noncomputable def aF(x:ek) (s:om) (k:Nat) (r:ke):Int:=
 if Xn r.n=a36 then 2
 else if((x.f.take k).any λy=>s5 (y.n=r.n))=a35 then 7
 else if r.u<0\/(a00 x.d:Int)<=r.u then 6
 else if nO x k r=a35 then 9
 else if r.ax<0\/9<r.ax\/r.aa.j<0\/r.aa.To<=r.aa.j\/109573<r.aa.To then 3
 else if 8<=oK x k r then 4
 else if RZ r.a4=a36 then 2
 else if 0<a00 r.ag/\cJ r.ag s ⟨1,0⟩≠0 then cJ r.ag s ⟨1,0⟩
 else cJ r.Value s (match x.d[r.u.toNat]? with|some d=>d.an|none=>⟨0,0⟩)
structure Ω (r:ke):Prop where
 nm:r.n.size<=1048576
 src:r.a4.size<=1048576
 g:∀n∈r.ag,Zb n
 v:∀n∈r.Value,Zb n
variable {r:ke}
theorem aU2(hk:k<a00 x.f) (ho:o=(if¬r.al = -1 then if¬r.al<0 then if¬(k:Int)<=r.al then(c! x.f r.al).bind λy=>M (y.u !=r.u)else M a35 else M a35 else M a36)):o=M (nO x k r):=by
 rw[ho];unfold nO;by_cases a:r.al = -1
 .grind
 by_cases h2:r.al<0
 .simp_all
 by_cases b:(k:Int)<=r.al
 .simp_all
 .rw[J a,J h2,J b,p5 a,p5 h2,p5 b,Nh U U,a!,n!]
theorem DL(hx:K! x) (hk:k<a00 x.f) (hr:Ω x.f[k]) (s:om):bu x (k:Int) s=M (aF x s k x.f[k]):=by
 have hrl:=hx.rules;have hdl:=hx.defs;unfold bu aF;rw[wa hk,a!,mB U,a!];generalize hrr:x.f[k]=r at hr⊢;have hl:ca (eo r (x.f.take k)) (0,0)=M (.inl ((oK x k r:Nat):Int)):=by
  refine Uc (λi=>(((oK x i r:Nat):Int),(i:Int))) k _ (λi hi=>?_) ?_ rfl
  .have:=D5 x i r;unfold eo;simp only;rw[J o0,wa o0,a!,pa U,pa U,Yac,GR U]
   grind
  grind[eo]
 rw[hl,a!];simp only;rw[jv (by have:=hr.nm;omega),a!,a!,q8 o0,a!];cases Xn r.n
 .rfl
 simp only[O!,s7];cases (x.f.take k).any λy=>s5 (y.n=r.n)
 .simp only[t!,s7];by_cases hd:r.u<0\/(a00 x.d:Int)<=r.u
  .grind
  .rw[p5 hd,J,a!,p5 l4];rw[aU2 hk rfl,a!];cases nO x k r
   .simp only[t!,s7];by_cases hp:r.ax<0\/9<r.ax
    .grind
    .rw[J (show¬r.ax<0 by omega),a!,p5 l4];by_cases hv:r.aa.j<0\/r.aa.To<=r.aa.j\/109573<r.aa.To
     .grind
     .rw[J (show¬r.aa.j<0 by omega),J (show¬r.aa.To<=r.aa.j by omega),a!,p5 l4,p5 (show¬(r.ax<0\/9<r.ax\/r.aa.j<0\/r.aa.To<=r.aa.j\/109573<r.aa.To) by omega)];by_cases b:8<=oK x k r
      .grind
      rw[p5,p5 b,kI hr.src,a!];cases RZ r.a4
      .rfl
      simp only[O!,s7];have hi:c! x.d r.u=M (x.d[r.u.toNat]' U):=Nh U U;have a:x.d[r.u.toNat]?=M (x.d[r.u.toNat]' U):=n! _;simp only[hi,a,AD hr.g,AD hr.v,a!]
      grind
   .rfl
 .rfl
theorem y9{v:hO}:vrB v=a36\/v.j=v.To↔v.j<0\/v.To<=v.j\/109573<v.To:=by
 grind[vrB]
theorem ag9{l:cb}(h:m? l) (hi:i<a00 l.e) (hr:r∈l.e[i].f):Ω r:=by
 obtain⟨-,-,-,-,-,g⟩:=h.s _ (y! hi);obtain⟨a,b,c,d⟩:=g r hr;exact⟨a,b,c,d⟩
theorem FI{l:cb}(h:m? l) (hi:i<a00 l.e) (hk:k<l.e[i].f.length):rq l (i:Int) (k:Int)=M (aF l.e[i] (QI l l.e[i]) k l.e[i].f[k]):=by
 have hr:=ag9 h hi (y! hk);have hx:=(h.s _ (y! hi)).2.1;have hS:=BI h hi;unfold rq;rw[wa hi,a!];generalize l.e[i]=x at hk hr hx hS⊢;have hrl:=hx.rules;have hdl:=hx.defs;rw[wa hk,a!];unfold aF;generalize hrr:x.f[k]=r at hr⊢;rw[Ur (by have:=hr.nm;omega),a!];cases Xn r.n
 .rfl
 simp only[O!,s7];have hl:ca (Nk (k:Int) x r) (0,0)=M (Ib ((oK x k r:Nat):Int) (ff (λi=>if((x.f.take k)[i]?.any λy=>s5 (y.n=r.n))=a35 then M 7 else q6) (x.f.take k).length)):=by
  refine xb (λi=>(((oK x i r:Nat):Int),(i:Int))) _ _ _ (λj hj _=>?_) (λ_=>?_) rfl
  .have hjk:j<k:=o0
   have:=D5 x j r;unfold Nk;simp only;rw[J,wa U,a!,pa U,pa U,n! hj,GR U];simp only[qac,Yac,w2];by_cases hn:x.f[j].n=r.n
   .rw[J hn,J hn];rfl
   .rw[p5 hn,p5 hn];by_cases hd:x.f[j].u=r.u
    .rw[J hd,J hd];rfl
    .rw[p5 hd,p5 hd];rfl
  grind[Nk]
 rw[hl,a!,←Rv (q:=λ(y:ke)=>s5 (y.n=r.n)) (g:=λ_=>(7:Int))]
 cases h2:ff (λi=>if((x.f.take k)[i]?.any λy=>s5 (y.n=r.n))=a35 then M (7:Int)else q6) (x.f.take k).length with
 |some v=>
  obtain⟨j,j1,a,-⟩:=Oa.1 h2;split at a
  .injection a with a;subst a;rfl
  simp_all
 |none=>
  simp only[Ib,Option.isSome_none,t!,s7];by_cases hd:r.u<0\/(a00 x.d:Int)<=r.u
  .grind
  .rw[p5 hd,J,a!,p5 l4];rw[aU2 hk rfl,a!];cases nO x k r
   .simp only[t!,s7,Px,a!];have hb:=y9 (v:=r.aa);by_cases hp:r.ax<0\/9<r.ax
    .grind
    .rw[J (show¬r.ax<0 by omega),J (show¬9<r.ax by omega)];by_cases hv:r.aa.j<0\/r.aa.To<=r.aa.j\/109573<r.aa.To
     .grind
     .have d:vrB r.aa=a35:=by
       simp_all
      have h2:¬r.aa.j=r.aa.To:=λhq=>hv (hb.1 (.inr hq));rw[J d,a!,p5 l4,p5 (show¬(r.ax<0\/9<r.ax\/r.aa.j<0\/r.aa.To<=r.aa.j\/109573<r.aa.To) by omega)];by_cases e:8<=oK x k r
      .grind
      rw[p5,p5 e,DI hr.src,a!];cases RZ r.a4
      .rfl
      simp only[O!,s7];have c:c! x.d r.u=M (x.d[r.u.toNat]' U):=Nh U U;have b:x.d[r.u.toNat]?=M (x.d[r.u.toNat]' U):=n! _;simp only[hS,c,b,iB hr.g,iB hr.v,a!]
      grind
   .rfl
noncomputable def inF(l:cb) (x:ek) (k:Nat):Option (Int×Int):=
 match x.w[k]? with
 |some f=>if Tz l f (x.w.take k) []=0 then q6 else M (Tz l f (x.w.take k) [],100+(k:Int))
 |none=>q6
noncomputable def xL(l:cb) (x:ek) (k:Nat):Option (Int×Int):=
 match x.d[k]? with
 |some f=>if Tz l f x.w (x.d.take k)=0 then q6 else M (Tz l f x.w (x.d.take k),200+(k:Int))
 |none=>q6
noncomputable def UO(l:cb) (x:ek) (k:Nat):Option (Int×Int):=
 match x.f[k]? with
 |some r=>if aF x (QI l x) k r=0 then q6 else M (aF x (QI l x) k r,300+(k:Int))
 |none=>q6
open Classical in
noncomputable def wL(x:ek) (k:Nat):Option (Int×Int):=if Way x (k:Int) (k:Int)then M (9,200+(k:Int))else q6
def BB(l:cb) (i:Nat) (x:ek):Bool:=
 if x.ac = -1 then a36 else if x.ac<0 then a35 else if(i:Int)<=x.ac then a35 else match l.e[x.ac.toNat]? with|some q=>q.ac !=-1|none=>a35
noncomputable def Wk(l:cb) (i:Nat) (x:ek):Int×Int:=
 if Xn x.n=a36 then(2,0)
 else if((l.r.any λy=>s5 (y.n=x.n)) || ((l.Tables.any λy=>s5 (y.n=x.n)) || (l.e.take i).any λy=>s5 (y.n=x.n)))=a35 then(7,0)
 else if BB l i x=a35 then(6,0)
 else if 12<a00 x.w then(4,112)
 else if 12<a00 x.d then(4,212)
 else match ff (inF l x) x.w.length with
  |some v=>v
  |none=>match ff (xL l x) x.d.length with
   |some v=>v
   |none=>match ff (UO l x) x.f.length with
    |some v=>v
    |none=>(ff (wL x) x.d.length).getD (0,0)
theorem al9{l:cb}(hi:i<a00 l.e) (ho:o=(if¬x.ac = -1 then if¬x.ac<0 then if¬(i:Int)<=x.ac then(c! l.e x.ac).bind λy=>M (y.ac !=-1)else M a35 else M a35 else M a36)):o=M (BB l i x):=by
 rw[ho];unfold BB;by_cases a:x.ac = -1
 .grind
 by_cases h2:x.ac<0
 .simp_all
 by_cases b:(i:Int)<=x.ac
 .simp_all
 .rw[J a,J h2,J b,p5 a,p5 h2,p5 b,Nh U U,a!,n!]
theorem K8{l:cb}(hi:i<a00 l.e) (ho:o=(if¬x.ac = -1 then if¬x.ac<0 then if¬(i:Int)<=x.ac then(c! (l.e.take i) x.ac).bind λy=>M (y.ac !=-1)else M a35 else M a35 else M a36)):o=M (BB l i x):=by
 rw[ho];unfold BB;by_cases a:x.ac = -1
 .grind
 by_cases h2:x.ac<0
 .simp_all
 by_cases b:(i:Int)<=x.ac
 .simp_all
 .rw[J a,J h2,J b,p5 a,p5 h2,p5 b,Nh U o0,a!,n! U,Yac]
theorem NJ{l:cb}(h:m? l) (hi:i<a00 l.e):Nr l (i:Int)=M (Wk l i l.e[i]):=by
 obtain⟨g1,g2,g3,g4,g5,f⟩:=h.s _ (y! hi);have c:=h.ne;have d:=h.nt;have hns:=h.ns;have hS:=Mw h hi;have b:∀r∈l.e[i].f,Ω r:=λr hr=>ag9 h hi hr;unfold Nr Wk;rw[wa hi,a!,mB U,a!];generalize l.e[i]=x at g1 g2 g3 g4 g5 f hS b⊢;have gd:=g2.defs;have gr:=g2.rules;rw[IJ c,a!,NN d,OY o0,jv U];have e:(if(l.r.any λy=>s5 (y.n=x.n))=a36 then(M (l.Tables.any λy=>s5 (y.n=x.n))).bind λu=>if u=a36 then(M ((l.e.take i).any λy=>s5 (y.n=x.n))).bind λw=>M w else M a35 else M a35) =
  M ((l.r.any λy=>s5 (y.n=x.n)) || ((l.Tables.any λy=>s5 (y.n=x.n)) || (l.e.take i).any λy=>s5 (y.n=x.n))):=by
  grind
 rw[e,a!,a!];cases Xn x.n
 .rfl
 simp only[O!,s7];cases (l.r.any λy=>s5 (y.n=x.n)) || ((l.Tables.any λy=>s5 (y.n=x.n)) || (l.e.take i).any λy=>s5 (y.n=x.n))
 .simp only[t!,s7];rw[K8 (l:=l) (x:=x) hi rfl,a!];cases BB l i x
  .simp only[t!,s7];by_cases j:12<a00 x.w
   .grind
   rw[p5,p5 j];by_cases g:12<a00 x.d
   .grind
   rw[p5,p5 g];have m:ca (qm l x) 0=M (Ib () (ff (inF l x) x.w.length)):=
    xb (λk=>(k:Int)) _ _ _ (λk hk _=>by
     unfold qm inF;rw[J,wa hk,a!,mB U,a!,jC (g4 _ (y! hk)) o0 l5,a!,n! hk,g! (n:=100+(k:Int)) U U,pa U];dsimp only;by_cases a:Tz l x.w[k] (x.w.take k) []=0
     .rw[p5,J a];rfl
     .rw[J a,p5 a];rfl) (λ_=>by grind[qm])
   have o:ca (km l x) 0=M (Ib () (ff (xL l x) x.d.length)):=
    xb (λk=>(k:Int)) _ _ _ (λk hk _=>by
     unfold km xL;rw[J,wa hk,a!,mB U,a!,jC (g5 _ (y! hk)) g3 o0,a!,n! hk,g! (n:=200+(k:Int)) U U,pa U];dsimp only;by_cases a:Tz l x.d[k] x.w (x.d.take k)=0
     .rw[p5,J a];rfl
     .rw[J a,p5 a];rfl) (λ_=>by grind[km])
   have p:ca (im x (QI l x)) 0=M (Ib () (ff (UO l x) x.f.length)):=
    xb (λk=>(k:Int)) _ _ _ (λk hk _=>by
     unfold im UO;rw[J,DL g2 hk (b _ (y! hk)),a!,n! hk,g! (n:=300+(k:Int)) U U,pa U];dsimp only;by_cases a:aF x (QI l x) k x.f[k]=0
     .rw[p5,J a];rfl
     .rw[J a,p5 a];rfl) (λ_=>by grind[im])
   have t:ca (gm x) 0=M (Ib () (ff (wL x) x.d.length)):=
    xb (λk=>(k:Int)) _ _ _ (λk hk _=>by
     obtain⟨q,q1,q2,q3⟩:=Vl g2 (k:Int);unfold gm wL;rw[J,q1,a!,rS U,a!,g! (n:=200+(k:Int)) U U,pa U];by_cases a:Way x (k:Int) (k:Int)
     .rw[J l4,J a];rfl
     .rw[p5 l4,p5 a];rfl) (λ_=>by grind[gm])
   rw[m,a!]
   cases ff (inF l x) x.w.length with
   |some v=>rfl
   |none=>
    simp only[Ib];rw[o,a!]
    cases ff (xL l x) x.d.length with
    |some v=>rfl
    |none=>
     simp only[Ib];rw[hS,a!,p,a!]
     cases ff (UO l x) x.f.length with
     |some v=>rfl
     |none=>
      simp only[Ib];rw[t,a!];cases ff (wL x) x.d.length<;>rfl
  .rfl
 .rfl
theorem DJ{β:Type}{f:Nat->Option α}(g:α->β) :ff (λk=>(f k).map g) n=(ff f n).map g:=by
 cases h1:ff f n with
 |none=>grind[Xa]
 |some v=>grind[Oa]
def WT(i:Nat) (v:Int×Int):ll:=⟨v.1,3,(i:Int),v.2⟩
theorem QY{l:cb}(h:inF l x k=M v):v.1≠0:=by
 grind[inF]
theorem vS{l:cb}(h:xL l x k=M v):v.1≠0:=by
 grind[xL]
theorem vT{l:cb}(h:UO l x k=M v):v.1≠0:=by
 grind[UO]
theorem aO6(h:wL x k=M v):v.1≠0:=by
 grind[wL]
theorem tG{f:Nat->Option (Int×Int)}(hf:∀{k v},f k=M v->v.1≠0) (h:ff f n=M v):v.1≠0:=by
 grind[Oa]
theorem mH{l:cb}(h:m? l) (hi:i<a00 l.e):Eo l (i:Int)=M (match ff (inF l l.e[i]) l.e[i].w.length with
 |some v=>WT i v
 |none=>match ff (xL l l.e[i]) l.e[i].d.length with
  |some v=>WT i v
  |none=>⟨0,0,0,0⟩):=by
 obtain⟨g1,g2,g3,g4,g5,a⟩:=h.s _ (y! hi);unfold Eo;rw[wa hi,a!];generalize l.e[i]=x at g1 g2 g3 g4 g5 a⊢;have gd:=g2.defs;have l1:ca (Bj l (i:Int) x) 0=M (Ib () ((ff (inF l x) x.w.length).map (WT i))):=by
  rw[←DJ];exact xb (λk=>(k:Int)) _ _ _ (λk hk _=>by
   have hf:=g4 _ (y! hk);unfold Bj inF Tz;rw[J,wa hk,a!,Ur U,a!,yx g3 U,a!,qb,a!,n! hk,g! (n:=100+(k:Int)) U U,pa U];dsimp only;generalize x.w[k]=f;cases Xn f.n
   .rfl
   cases (x.w.take k).any λy=>s5 (y.n=f.n)
   .cases la f.an l.r<;>rfl
   .rfl) (λ_=>by grind[Bj])
 have l2:ca (Aj l (i:Int) x) 0=M (Ib () ((ff (xL l x) x.d.length).map (WT i))):=by
  rw[←DJ];exact xb (λk=>(k:Int)) _ _ _ (λk hk _=>by
   have hf:=g5 _ (y! hk);unfold Aj xL Tz;rw[J,wa hk,a!,Ur U,a!,yx g3 (x? _),a!,yx gd U,qb,a!,n! hk,g! (n:=200+(k:Int)) U U,pa U,η];dsimp only;generalize x.d[k]=f;cases Xn f.n
   .rfl
   cases x.w.any λy=>s5 (y.n=f.n)
   .cases (x.d.take k).any λy=>s5 (y.n=f.n)
    .cases la f.an l.r<;>rfl
    .rfl
   .rfl) (λ_=>by grind[Aj])
 grind[Ib]
theorem nH{l:cb}(h:m? l) (hi:i<a00 l.e):Ho l (i:Int)=M (if(Wk l i l.e[i]).1=0 then⟨0,0,0,0⟩else WT i (Wk l i l.e[i])):=by
 obtain⟨g1,g2,g3,g4,g5,z⟩:=h.s _ (y! hi);have hne:=h.ne;have hnt:=h.nt;have hns:=h.ns;have t:=mH h hi;have w:=λ{k:Nat} (hk:k<l.e[i].f.length)=>FI h hi hk;unfold Ho Wk;rw[wa hi,a!];generalize l.e[i]=x at g1 g2 g3 g4 g5 z t w⊢;have gd:=g2.defs;have gr:=g2.rules;rw[Ur U,a!,ba6 h U,a!];cases Xn x.n
 .rfl
 simp only[O!,s7];cases (l.r.any λy=>s5 (y.n=x.n)) || ((l.Tables.any λy=>s5 (y.n=x.n)) || (l.e.take i).any λy=>s5 (y.n=x.n))
 .simp only[t!,s7];rw[al9 (l:=l) (x:=x) hi rfl,a!];cases BB l i x
  .simp only[t!,s7];by_cases u:12<a00 x.w
   .rw[J,J u];rfl
   rw[p5,p5 u];by_cases r:12<a00 x.d
   .rw[J,J r];rfl
   rw[p5,p5 r,t,a!];have B:ca (zi l (i:Int) x) 0=M (Ib () ((ff (UO l x) x.f.length).map (WT i))):=by
    rw[←DJ];exact xb (λk=>(k:Int)) _ _ _ (λk hk _=>by
     unfold zi UO;rw[J,w hk,a!,n! hk,g! (n:=300+(k:Int)) U U,pa U];dsimp only;by_cases p:aF x (QI l x) k x.f[k]=0
     .rw[p5,J p];rfl
     .rw[J p,p5 p];rfl) (λ_=>by grind[zi])
   have C:ca (wi (i:Int) x) 0=M (Ib () ((ff (wL x) x.d.length).map (WT i))):=by
    rw[←DJ];exact xb (λk=>(k:Int)) _ _ _ (λk hk _=>by
     have E:=λy=>ZA (s:=x) (d:=(k:Int)) (y:=y);have q2:=(nB x (k:Int) x.d.length).len;have D:ca (Cj (i:Int) (k:Int) (LF x (k:Int) x.d.length)) 0=M (Ib () (ff (λj=>if((LF x (k:Int) x.d.length)[j]?.any λy=>s5 (y=(k:Int)))=a35 then M (l? (WT i (9,200+(k:Int))))else q6) (LF x (k:Int) x.d.length).length)):=
      xb (λj=>(j:Int)) _ _ _ (λj hj _=>by
       unfold Cj;rw[J,wa hj,a!,n! hj,g! (n:=200+(k:Int)) U U,pa U];simp only[qac,w2];by_cases he:(LF x (k:Int) x.d.length)[j]=(k:Int)
       .rw[J he,J he];rfl
       .rw[p5 he,p5 he];rfl) (λ_=>by grind[Cj])
     unfold wi wL;rw[J,Ep g2,a!,D,a!,pa U];have a:=Rv (l:=LF x (k:Int) x.d.length) (q:=λy=>s5 (y=(k:Int))) (g:=λ_=>(l? (WT i (9,200+(k:Int))):Ex Int Unit ll))
     cases h2:ff (λj=>if((LF x (k:Int) x.d.length)[j]?.any λy=>s5 (y=(k:Int)))=a35 then M (l? (WT i (9,200+(k:Int))):Ex Int Unit ll)else q6) (LF x (k:Int) x.d.length).length with
     |none=>
      rw[h2]at a;rw[if_neg]
      .rfl
      grind
     |some v=>
      rw[h2]at a;obtain⟨y,A,hyk⟩:=Lac.1 a.symm;have:y=(k:Int):=l4
      subst this;rw[J ((E _).1 A)];obtain⟨j,-,b,-⟩:=Oa.1 h2;split at b
      .injection b with b;subst b;rfl
      simp_all) (λ_=>by grind[wi])
   cases c:ff (inF l x) x.w.length with
   |some v=>
    have:=tG (f:=inF l x) QY c
    simp_all[WT]
   |none=>
    dsimp only
    cases e:ff (xL l x) x.d.length with
    |some v=>
     have:=tG (f:=xL l x) vS e
     simp_all[WT]
    |none=>
     dsimp only;rw[p5 l5,B]
     cases m:ff (UO l x) x.f.length with
     |some v=>
      have:=tG (f:=UO l x) vT m
      simp_all[Ib]
     |none=>
      simp only[Option.map_none,Ib,a!];rw[C]
      cases o:ff (wL x) x.d.length with
      |some v=>
       have:=tG (f:=wL x) aO6 o
       simp_all[Ib]
      |none=>rfl
  .rfl
 .rfl
noncomputable def Qo(l:cb):ll:=
 if 8<a00 l.r then⟨4,1,8,0⟩
 else match ff (λi=>match l.r[i]? with|some x=>if(Dh l i x).1=0 then q6 else M (⟨(Dh l i x).1,1,(i:Int),(Dh l i x).2⟩:ll)|none=>q6) l.r.length with
  |some v=>v
  |none=>
   if 8<a00 l.Tables then⟨4,2,8,0⟩
   else match ff (λi=>match l.Tables[i]? with|some x=>if(mr l i x).1=0 then q6 else M (⟨(mr l i x).1,2,(i:Int),(mr l i x).2⟩:ll)|none=>q6) l.Tables.length with
    |some v=>v
    |none=>
     if 4<a00 l.e then⟨4,3,4,0⟩
     else(ff (λi=>match l.e[i]? with|some x=>if(Wk l i x).1=0 then q6 else M (WT i (Wk l i x))|none=>q6) l.e.length).getD ⟨0,0,0,0⟩
theorem BF{f:Nat->Option ll}(hf:∀{k v},f k=M v->v.Code≠0) {v:ll}(h:ff f n=M v):v.Code≠0:=by
 grind[Oa]
theorem wY{l:cb}{v:ll}(h:(match l.r[k]? with|some x=>if(Dh l k x).1=0 then q6 else M (⟨(Dh l k x).1,1,(k:Int),(Dh l k x).2⟩:ll)|none=>q6)=M v):v.Code≠0:=by
 grind
theorem SZ{l:cb}{v:ll}(h:(match l.Tables[k]? with|some x=>if(mr l k x).1=0 then q6 else M (⟨(mr l k x).1,2,(k:Int),(mr l k x).2⟩:ll)|none=>q6)=M v):v.Code≠0:=by
 grind
theorem nk{l:cb}(h:m? l):rp l=M (Qo l):=by
 have hne:=h.ne;have hnt:=h.nt;have hns:=h.ns;have le:ca (fm l) 0=M (Ib () (ff (λi=>match l.r[i]? with|some x=>if(Dh l i x).1=0 then q6 else M (⟨(Dh l i x).1,1,(i:Int),(Dh l i x).2⟩:ll)|none=>q6) l.r.length)):=
  xb (λk=>(k:Int)) _ _ _ (λk hk _=>by
   unfold fm;rw[J,wa hk,a!,CL h hk,a!,n! hk,pa U];dsimp only;by_cases a:(Dh l k l.r[k]).1=0
   .rw[p5,J a];rfl
   .rw[J a,p5 a];rfl) (λ_=>by grind[fm])
 have ls:ca (pk l) 0=M (Ib () (ff (λi=>match l.e[i]? with|some x=>if(Wk l i x).1=0 then q6 else M (WT i (Wk l i x))|none=>q6) l.e.length)):=
  xb (λk=>(k:Int)) _ _ _ (λk hk _=>by
   unfold pk;rw[J,NJ h hk,a!,n! hk,pa U];dsimp only;by_cases a:(Wk l k l.e[k]).1=0
   .rw[p5,J a];rfl
   .rw[J a,p5 a];rfl) (λ_=>by grind[pk])
 unfold rp Tv Du Cu Qo;by_cases b:8<a00 l.r
 .grind
 rw[p5,p5 b,le]
 cases c:ff (λi=>match l.r[i]? with|some x=>if(Dh l i x).1=0 then q6 else M (⟨(Dh l i x).1,1,(i:Int),(Dh l i x).2⟩:ll)|none=>q6) l.r.length with
 |some v=>
  have:=BF (f:=λi=>match l.r[i]? with|some x=>if(Dh l i x).1=0 then q6 else M (⟨(Dh l i x).1,1,(i:Int),(Dh l i x).2⟩:ll)|none=>q6) wY c
  simp_all[Ib]
 |none=>
  simp only[Ib,a!];rw[p5 l5];by_cases b:8<a00 l.Tables
  .grind
  rw[p5,p5 b,F8 h]
  cases d:ff (λi=>match l.Tables[i]? with|some x=>if(mr l i x).1=0 then q6 else M (⟨(mr l i x).1,2,(i:Int),(mr l i x).2⟩:ll)|none=>q6) l.Tables.length with
  |some v=>
   have:=BF (f:=λi=>match l.Tables[i]? with|some x=>if(mr l i x).1=0 then q6 else M (⟨(mr l i x).1,2,(i:Int),(mr l i x).2⟩:ll)|none=>q6) SZ d
   simp_all[Ib]
  |none=>
   simp only[Ib,a!];rw[p5 l5];by_cases b:4<a00 l.e
   .grind
   rw[p5,p5 b,ls];cases ff (λi=>match l.e[i]? with|some x=>if(Wk l i x).1=0 then q6 else M (WT i (Wk l i x))|none=>q6) l.e.length<;>rfl
theorem CC{l:cb}(h:m? l):Ds l=M (Qo l):=by
 have hne:=h.ne;have hnt:=h.nt;have hns:=h.ns;have le:ca (Gm l) 0=M (Ib () (ff (λi=>match l.r[i]? with|some x=>if(Dh l i x).1=0 then q6 else M (⟨(Dh l i x).1,1,(i:Int),(Dh l i x).2⟩:ll)|none=>q6) l.r.length)):=
  xb (λk=>(k:Int)) _ _ _ (λk hk _=>by
   unfold Gm;rw[J,CI h hk,a!,n! hk,pa U];dsimp only;by_cases a:(Dh l k l.r[k]).1=0
   .rw[J a,p5 l5,J a];rfl
   .rw[p5 a,J,p5 a];rfl) (λ_=>by grind[Gm])
 have lt:ca (Fm l) 0=M (Ib () (ff (λi=>match l.Tables[i]? with|some x=>if(mr l i x).1=0 then q6 else M (⟨(mr l i x).1,2,(i:Int),(mr l i x).2⟩:ll)|none=>q6) l.Tables.length)):=
  xb (λk=>(k:Int)) _ _ _ (λk hk _=>by
   unfold Fm;rw[J,oH h hk,a!,n! hk,pa U];dsimp only;by_cases a:(mr l k l.Tables[k]).1=0
   .rw[J a,p5 l5,J a];rfl
   .rw[p5 a,J,p5 a];rfl) (λ_=>by grind[Fm])
 have ls:ca (Em l) 0=M (Ib () (ff (λi=>match l.e[i]? with|some x=>if(Wk l i x).1=0 then q6 else M (WT i (Wk l i x))|none=>q6) l.e.length)):=
  xb (λk=>(k:Int)) _ _ _ (λk hk _=>by
   unfold Em;rw[J,nH h hk,a!,n! hk,pa U];dsimp only;by_cases a:(Wk l k l.e[k]).1=0
   .rw[J a,p5 l5,J a];rfl
   .rw[p5 a,J (by grind[WT]),p5 a];rfl) (λ_=>by grind[Em])
 unfold Ds Qo;by_cases b:8<a00 l.r
 .grind
 rw[p5,p5 b,le]
 cases ff (λi=>match l.r[i]? with|some x=>if(Dh l i x).1=0 then q6 else M (⟨(Dh l i x).1,1,(i:Int),(Dh l i x).2⟩:ll)|none=>q6) l.r.length with
 |some v=>rfl
 |none=>
  simp only[Ib,a!];by_cases b:8<a00 l.Tables
  .grind
  rw[p5,p5 b,lt]
  cases ff (λi=>match l.Tables[i]? with|some x=>if(mr l i x).1=0 then q6 else M (⟨(mr l i x).1,2,(i:Int),(mr l i x).2⟩:ll)|none=>q6) l.Tables.length with
  |some v=>rfl
  |none=>
   simp only[Ib,a!];by_cases b:4<a00 l.e
   .grind
   rw[p5,p5 b,ls];cases ff (λi=>match l.e[i]? with|some x=>if(Wk l i x).1=0 then q6 else M (WT i (Wk l i x))|none=>q6) l.e.length<;>rfl
structure D? (l:cb):Prop where
 e:∀i (h:i<a00 l.r),(Dh l i l.r[i]).1=0
 t:∀i (h:i<a00 l.Tables),(mr l i l.Tables[i]).1=0
 s:∀i (h:i<a00 l.e),(Wk l i l.e[i]).1=0
 ne:l.r.length<=8
 nt:l.Tables.length<=8
 ns:l.e.length<=4
theorem oF{l:cb}(h:(Qo l).Code=0):D? l:=by
 unfold Qo at h;split at h
 .grind
 rename_i h1;split at h
 .rename_i v hv;exact(BF (f:=λi=>match l.r[i]? with|some x=>if(Dh l i x).1=0 then q6 else M (⟨(Dh l i x).1,1,(i:Int),(Dh l i x).2⟩:ll)|none=>q6) wY hv h).elim
 rename_i he;split at h
 .grind
 rename_i h2;split at h
 .rename_i v hv;exact(BF (f:=λi=>match l.Tables[i]? with|some x=>if(mr l i x).1=0 then q6 else M (⟨(mr l i x).1,2,(i:Int),(mr l i x).2⟩:ll)|none=>q6) SZ hv h).elim
 rename_i ht;split at h
 .grind
 rename_i h3;refine⟨λi hi=>?_,λi hi=>?_,λi hi=>?_,U,U,U⟩
 .grind[Xa]
 .grind[Xa]
 .generalize hf:ff _ l.e.length=o at h
  cases o with
  |some v=>
   rw[Τ]at h;obtain⟨k,c,a,-⟩:=Oa.1 hf;rw[n! c]at a;dsimp only at a;split at a
   .grind
   .rename_i b;injection a with a;subst a;exact(b h).elim
  |none=>
   grind[Xa]
theorem D?.rows{l:cb}(h:D? l):∀x∈l.Tables,a00 x.Rows<=64:=by
 intro x hx;obtain⟨i,hi,rfl⟩:=H' hx;have:=h.t i hi
 grind[mr,Tu]
theorem IH(hn:n<=1048576) (bad:Nat->Bool) (a:∀i:Nat,i<n->step (i:Int)=if bad i=a35 then M (.ret a36)else M (.go (aa .i64 ((i:Int)+1)))) (b:step (n:Int)=M (.brk ())) :
 (ca step 0=M (.inr a36))\/(ca step 0=M (.inl ())/\∀i,i<n->bad i=a36):=by
 have h:=xb (step:=step) (x0:=0) (λi=>(i:Int)) (λi=>if bad i=a35 then M a36 else q6) n () (λi hi _=>by
  rw[a i hi,pa U];cases bad i<;>rfl) (λ_=>b)
 cases hf:ff (λi=>if bad i=a35 then M a36 else q6) n with
 |none=>
  right;rw[hf]at h;refine⟨h,λi hi=>?_⟩
  grind[Xa]
 |some v=>
  left;rw[hf]at h;obtain⟨k,-,c,-⟩:=Oa.1 hf;split at c
  .injection c with c;subst c;exact h
  grind
structure κ (s:ek):Prop where
 nm:s.n.size<=80
 ins:s.w.length<=14
 defs:s.d.length<=14
 rules:s.f.length<=60
 i:∀f∈s.w,f.n.size<=80
 d:∀f∈s.d,f.n.size<=80
 r:∀r∈s.f,r.n.size<=80/\r.a4.size<=80/\r.ag.length<=50/\r.Value.length<=50
variable {s:ek}
theorem SI(s:ek):∃b,lj s=M b/\(b=a35->κ s):=by
 unfold lj;by_cases h1:80<(s.n.size:Int)
 .simp_all
 by_cases h2:14<(a00 s.w:Int)
 .simp_all
 by_cases h3:14<(a00 s.d:Int)
 .simp_all
 by_cases h4:60<(a00 s.f:Int)
 .simp_all
 have hc:(if¬80<(s.n.size:Int)then if¬14<(a00 s.w:Int)then if¬14<(a00 s.d:Int)then M (s5 (60<(a00 s.f:Int)))else M a35 else M a35 else M a35)=M a36:=by
  grind
 rw[hc,a!,p5 l5];rcases IH (n:=a00 s.w) U (λi=>match s.w[i]? with|some f=>s5 (80<(f.n.size:Int))|none=>a36) (step:=Vk s) (λi hi=>by
  grind[Vk,wa]) (by grind[Vk])with k|⟨k,k1⟩
 .grind
 rw[k,a!];dsimp only;rcases IH (n:=a00 s.d) U (λi=>match s.d[i]? with|some f=>s5 (80<(f.n.size:Int))|none=>a36) (step:=Uk s) (λi hi=>by
  grind[Uk,wa]) (by grind[Uk])with k|⟨k,k2⟩
 .grind
 rw[k,a!];dsimp only;rcases IH (n:=a00 s.f) U (λi=>match s.f[i]? with|some r=>s5 (80<(r.n.size:Int)\/80<(r.a4.size:Int)\/50<(a00 r.ag:Int)\/50<(a00 r.Value:Int))|none=>a36) (step:=Tk s) (λi hi=>by
  unfold Tk;rw[J,wa hi,a!,n! hi]
  grind) (by grind[Tk])with k|⟨k,k3⟩
 .grind
 rw[k,a!];refine⟨a35,rfl,λ_=>⟨U,U,U,U,?_,?_,?_⟩⟩
 .intro f hf;obtain⟨i,hi,rfl⟩:=H' hf
  grind
 .intro f hf;obtain⟨i,hi,rfl⟩:=H' hf
  grind
 .intro r hr;obtain⟨i,hi,rfl⟩:=H' hr
  grind
def Ty(l:cb):Nat->Int
 |0=>0
 |k+1=>match l.Tables[k]? with|some t=>aa .i64 (Ty l k+(a00 t.Rows:Int))|none=>Ty l k
structure S? (l:cb):Prop where
 ne:l.r.length<=9
 nt:l.Tables.length<=9
 ns:l.e.length<=5
 e:∀x∈l.r,x.n.size<=80/\x.s.length<=20/\∀m∈x.s,m.size<=80
 t:∀x∈l.Tables,x.n.size<=80
 s:∀x∈l.e,κ x
 rt:∀i,i<a00 l.Tables->Ty l (i+1)<=150
variable {l:cb}
def JF(l:cb):Nat->Int
 |0=>0
 |k+1=>match l.e[k]? with|some t=>aa .i64 (JF l k+(a00 t.f:Int))|none=>JF l k
def aq2(l:cb) (i:Nat):Bool:=match l.r[i]? with|some x=>s5 (80<(x.n.size:Int)) || s5 (20<(a00 x.s:Int)) || (x.s.any λm=>s5 (80<(m.size:Int)))|none=>a36
theorem gV(hi:i<a00 l.r):aq2 l i=(s5 (80<(l.r[i].n.size:Int)) || s5 (20<(l.r[i].s.length:Int)) || (l.r[i].s.any λm=>s5 (80<(m.size:Int)))):=by
 grind[aq2]
theorem WL(l:cb):∃b,xu l=M b/\(b=a35->S? l):=by
 unfold xu;by_cases h1:9<(a00 l.r:Int)
 .simp_all
 by_cases h2:9<(a00 l.Tables:Int)
 .simp_all
 by_cases h3:5<(a00 l.e:Int)
 .simp_all
 have hc:(if¬9<(a00 l.r:Int)then if¬9<(a00 l.Tables:Int)then M (s5 (5<(a00 l.e:Int)))else M a35 else M a35)=M a36:=by
  grind
 rw[hc,a!,p5 l5];have d:∀i (hi:i<a00 l.r),l.r[i].s.length<=20->ca (Wj l (i:Int)) 0=M (if(l.r[i].s.any λm=>s5 (80<(m.size:Int)))=a35 then .inr (.ret a36)else .inl ()):=by
  intro i hi hm;have h:=xb (step:=Wj l (i:Int)) (x0:=0) (λk=>(k:Int)) (λk=>if(l.r[i].s[k]?.any λm=>s5 (80<(m.size:Int)))=a35 then M (l? a36)else q6) l.r[i].s.length () (λk hk _=>by
   unfold Wj;rw[wa hi,a!,J,wa hk,a!,n! hk,pa U];simp only[qac,w2];by_cases hb:80<(l.r[i].s[k].size:Int)
   .rw[J hb,J hb];rfl
   .rw[p5 hb,p5 hb];rfl) (λ_=>by grind[Wj,wa])
  rw[h,←Rv (g:=λ_=>(l? a36:Ex Int Unit Bool))]
  cases hf:ff (λk=>if(l.r[i].s[k]?.any λm=>s5 (80<(m.size:Int)))=a35 then M (l? a36:Ex Int Unit Bool)else q6) l.r[i].s.length with
  |none=>rfl
  |some v=>
   obtain⟨k,-,e,-⟩:=Oa.1 hf;split at e
   .injection e with e;subst e;rfl
   grind
 rcases IH (n:=a00 l.r) U (aq2 l) (step:=Wm l) (λi hi=>by
  have d:=d i hi;unfold Wm;rw[J,wa hi,a!,gV hi]
  grind) (by grind[Wm])with k|⟨k,k1⟩
 .grind
 rw[k,a!];dsimp only;have p:=xb (step:=Vm l) (x0:=(0,0)) (λi=>(Ty l i,(i:Int))) (λi=>match l.Tables[i]? with|some x=>if(s5 (80<(x.n.size:Int)) || s5 (150<Ty l (i+1)))=a35 then M a36 else q6|none=>q6) l.Tables.length () (λi hi _=>by
  unfold Vm;simp only[Ty,n! hi];rw[J,wa hi,a!,pa U]
  grind[UD]) (λ_=>by grind[Vm])
 rw[p,a!]
 cases hf:ff (λi=>match l.Tables[i]? with|some x=>if(s5 (80<(x.n.size:Int)) || s5 (150<Ty l (i+1)))=a35 then M a36 else q6|none=>q6) l.Tables.length with
 |some v=>
  refine⟨a36,?_,l5⟩;obtain⟨j,o,a,-⟩:=Oa.1 hf;rw[n! o]at a;dsimp only at a;split at a
  .injection a with a;subst a;rfl
  grind
 |none=>
  have ht2:=Xa.1 hf;dsimp only[Ib];have hS:=xb (step:=Um l) (x0:=(0,0)) (λi=>(JF l i,(i:Int))) (λi=>match l.e[i]? with|some x=>if(s5 (60<JF l (i+1)) || !((lj x).getD a35))=a35 then M a36 else q6|none=>q6) l.e.length () (λi hi _=>by
   unfold Um;simp only[JF,n! hi];rw[J,wa hi,a!,pa U];obtain⟨b,hb,-⟩:=SI l.e[i]
   grind[UD]) (λ_=>by grind[Um])
  rw[hS,a!]
  cases c:ff (λi=>match l.e[i]? with|some x=>if(s5 (60<JF l (i+1)) || !((lj x).getD a35))=a35 then M a36 else q6|none=>q6) l.e.length with
  |some v=>
   refine⟨a36,?_,l5⟩;obtain⟨j,o,a,-⟩:=Oa.1 c;rw[n! o]at a;dsimp only at a;split at a
   .injection a with a;subst a;rfl
   grind
  |none=>
   have f:=Xa.1 c;refine⟨a35,rfl,λ_=>⟨U,U,U,?_,?_,?_,λi hi=>?_⟩⟩
   .intro x hx;obtain⟨i,hi,rfl⟩:=H' hx
    grind[gV]
   .intro x hx;obtain⟨i,hi,rfl⟩:=H' hx
    grind
   .intro x hx;obtain⟨i,hi,rfl⟩:=H' hx;have:=f i hi;rw[n! hi]at this;dsimp only at this;split at this
    .cases this
    .rename_i hn;obtain⟨b,hb,hb2⟩:=SI l.e[i]
     grind
   grind
theorem ER{l:cb}(hr:∀t∈l.Tables,a00 t.Rows<=1125899906842624) (hn:l.Tables.length<=9):∀n,n<=a00 l.Tables->0<=Ty l n/\Ty l n<=1125899906842624*n/\∀i (hi:i<a00 l.Tables),i<n->(l.Tables[i].Rows.length:Int)<=Ty l n
 |0,_=>by simp[Ty]
 |n+1,h=>by
  obtain⟨h1,h2,h3⟩:=ER hr hn n U
  grind[Ty,g!]
theorem S?.rows(h:S? l) (hr:∀t∈l.Tables,a00 t.Rows<=1125899906842624):∀t∈l.Tables,a00 t.Rows<=150:=by
 intro t ht;obtain⟨i,hi,rfl⟩:=H' ht;obtain⟨-,-,a⟩:=ER hr h.nt (i+1) hi;have:=a i hi U;have:=h.rt i hi;omega
def aw8(l:cb):Prop:=∀s∈l.e,∀r∈s.f,(∀n∈r.ag,Zb n)/\∀n∈r.Value,Zb n
theorem S?.ok(h:S? l) (ht:aw8 l):m? l:=by
 have hne:=h.ne;have hnt:=h.nt;have hns:=h.ns;refine⟨U,U,U,λx hx=>?_,λx hx=>?_,λx hx=>?_⟩
 .obtain⟨a,b,c⟩:=h.e x hx
  grind
 .have:=h.t x hx;omega
 .obtain⟨a,b,c,d,e,f,g⟩:=h.s x hx;refine⟨U,⟨U,U,λr hr=>o0⟩,U,λq hq=>o0,λq hq=>o0,λr hr=>?_⟩;have:=g r hr;obtain⟨t1,t2⟩:=ht x hx r hr
  grind
end Go.Proofs.Dev
