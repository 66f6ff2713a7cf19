/-
  The functions as plain partial functions, and plain lemmas about them: no condition.
-/
import Derived.Test.YtmhfebelfmgckaaGreatDoorPA
open Option renaming some->M,none->s5
open Decidable renaming decide->s6
open Go.Tm.Ex renaming go->i!,brk->i?,ret->l?
open Bool renaming and_false->yae,false_and->zae,false_eq_true->t!,not_eq_true->Xac,not_false->qac,not_true->Φ,or_false->Gae,true_and->Ο,true_eq_false->P!,true->a38,false->a39
open ByteArray renaming empty->Lad,mk->n?
open Classical renaming not_forall->uae,not_imp->Oae
open Int renaming natAbs_tdiv->Yae,reduceBEq->F!,reduceEq->u!,tdiv->s?,tdiv_nonneg->Oad,tmod->v?,tmod_nonneg->rae
open List renaming any_eq_true->Yac,cons_append->G?,eq_nil_of_length_eq_zero->Δ,filter_append->δ,foldl_cons->Γ,getElem?_eq_getElem->n!,getElem_mem->y!,getElem_of_mem->H',getElem_take->mad,length_filter_le->Ξ,mem_cons->Z',mem_filter->tac,mem_map->V!,mem_of_mem_drop->oad,mem_singleton->Tab,nodup_cons->Tac,pairwise_cons->Uab,range->p!,replicate->k?,take_add_one->N!,take_length->ν,length->a00
open Nat renaming add_zero->vac,le_refl->x?,le_trans->N?
open Option renaming any_some->xac,bind->b?,bind_some->a!,getD_some->κ,isSome_iff_exists->Vac
open Option.some renaming inj->J',injEq->T'
set_option linter.all false
namespace Go.Tm
variable {i b:Nat}
variable {α β ρ σ:Type}
theorem f?{n:Int}(h1:-9223372036854775808<=n) (h2:n<9223372036854775808):aa .i64 n=n:=by
 grind[aa,VL]
theorem pa(h:i<4611686018427387904):aa .i64 ((i:Int)+1)=((i+1:Nat):Int):=by
 grind[f?]
theorem va{l:List α}(h:i<a00 l):c! l (i:Int)=M l[i]:=by
 grind[c!]
theorem ao2{l:List α}:c! l (i:Int)=l[i]?:=by
 simp[c!]
theorem nh{l:List α}{i:Int}(h1:0<=i) (h2:i<a00 l):c! l i=M (l[i.toNat]' U):=by
 simp_all[c!]
theorem xS{b:ByteArray}(h:i<b.size):CA b (i:Int)=M (b[i].toNat:Int):=by
 simp_all[CA]
theorem CB{l:List α}(h:i<=a00 l):Jw l (i:Int)=M (l.take i):=by
 simp_all[Jw]
theorem U5{l:List α}(h:i<=a00 l):KG l (i:Int)=M (l.drop i):=by
 simp_all[KG]
theorem Od{l r:List α}(h:(a00 l+a00 r)*b<=140737488355328):app b l r=M (l++r):=J U
theorem oE{l:List α}{x:α}(h:i<a00 l):put l (i:Int) x=M (l.set i x):=by
 simp_all[put]
theorem RA{n:Nat}{x:α}(h:n*b<=281474976710656) (h2:n<=4611686018427387904):kD b x (n:Int) (n:Int)=M (k? n x):=by
 grind[kD]
def ff(f:Nat->Option ρ):Nat->Option ρ
 |0=>s5
 |n+1=>match f 0 with|some v=>M v|none=>ff (λi=>f (i+1)) n
theorem db{f:Nat->Option ρ}:∀{n:Nat},ff f n=s5↔∀i,i<n->f i=s5
 |0=>by simp[ff]
 |n+1=>by
  simp only[ff];constructor
  .intro h i hi
   cases a:f 0 with
   |some v=>simp_all
   |none=>
    simp only[a]at h
    cases i with
    |zero=>omega
    |succ i=>exact(db (f:=λi=>f (i+1))).1 h i U
  .intro h;rw[h 0 U];exact db.2 λi hi=>h (i+1) U
theorem Qa{f:Nat->Option ρ}{v:ρ}:∀{n:Nat},ff f n=M v↔∃i,i<n/\f i=M v/\∀j,j<i->f j=s5
 |0=>by simp[ff]
 |n+1=>by
  simp only[ff];constructor
  .intro h
   cases b:f 0 with
   |some w=>grind
   |none=>
    simp only[b]at h;obtain⟨i,c,h2,a⟩:=(Qa (f:=λi=>f (i+1))).1 h;exact⟨i+1,U,h2,λj hj=>by cases j with|zero=>omega|succ j=>simp_all⟩
  .rintro⟨i,c,h2,a⟩
   cases i with
   |zero=>rw[h2]
   |succ i=>
    rw[a 0 U];exact Qa.2 ⟨i,U,h2,λj hj=>a (j+1) U⟩
def Rb(b:β):Option ρ->β⊕ρ
 |none=>.inl b
 |some v=>.inr v
def mE(s:σ):Option ρ->Ex σ β ρ
 |none=>.go s
 |some v=>.ret v
theorem BK{b:β}:Rb b (s5:Option ρ)=.inl b:=rfl
theorem BZ{b:β}{v:ρ}:Rb b (M v)=.inr v:=rfl
def ci9{s:σ}:(mE s (s5:Option ρ):Ex σ β ρ)=.go s:=rfl
def O3{s:σ}{v:ρ}:(mE s (M v):Ex σ β ρ)=.ret v:=rfl
theorem Gb{step:σ->Option (Ex σ β ρ)}{x0:σ}(S:Nat->σ) (f:Nat->Option ρ) (n:Nat) (b:β)
 (e:∀i,i<n->(∀j,j<i->f j=s5)->step (S i)=M (mE (S (i+1)) (f i))) (a:(∀j,j<n->f j=s5)->step (S n)=M (.brk b)) (d:x0=S 0:=by rfl) :
 ca step x0=M (Rb b (ff f n)):=by
 have key:∀k i,i+k=n->(∀j,j<i->f j=s5)->ca step (S i)=M (Rb b (ff (λj=>f (i+j)) k)):=by
  intro k
  induction k with
  |zero=>
   intro i hi hf;rw[vac]at hi;subst hi;rw[Qb (a hf)];rfl
  |succ k g=>
   intro i hi hf;have c:=e i U hf;simp only[ff,vac]
   cases d:f i with
   |some v=>
    rw[d]at c;rw[Ct c];rfl
   |none=>
    rw[d]at c;rw[Ke c,g (i+1) U λj hj=>o4]
    grind
 simp_all
theorem Nc{step:σ->Option (Ex σ β ρ)}{x0:σ}(S:Nat->σ) (n:Nat) (b:β) (hgo:∀i,i<n->step (S i)=M (.go (S (i+1)))) (hend:step (S n)=M (.brk b)) (h0:x0=S 0:=by rfl):ca step x0=M (.inl b):=by
 have key:∀k i,i+k=n->ca step (S i)=M (.inl b):=by
  intro k
  induction k with
  |zero=>simp_all[Qb]
  |succ k ih=>grind[Ke]
 simp_all
theorem bl2{l:List α}{p:α->Option Bool}(q:α->Bool) (a:∀x∈l,p x=M (q x)) (hl:l.length<4611686018427387904) :
 ca (λ(s:Int)=>if s<(a00 l:Int)then(c! l s).bind λx=>(p x).bind λc=>if c=a38 then M (l? s)else M (i! (aa .i64 (s+1)))else M (i? ())) 0
  = M (Rb () (ff (λi=>if(l[i]?.any q)=a38 then M (i:Int)else s5) l.length)):=by
 refine Gb (λi=>(i:Int)) _ l.length () (λi hi _=>?_) (λ_=>?_)
 .rw[J,va hi,a!,a _ (y! hi),a!,f? U U]
  grind[mE]
 simp
theorem Wv{l:List α}{q:α->Bool}{g:Nat->ρ}:(ff (λi=>if(l[i]?.any q)=a38 then M (g i)else s5) l.length).isSome=l.any q:=by
 rw[Bool.eq_iff_iff,Vac,Yac];constructor
 .grind[Qa]
 .rintro⟨x,hx,hq⟩;rw[←Vac,←Option.not_isNone,Bool.not_eq_true',Option.isNone_eq_false_iff,Option.isSome_iff_ne_none];intro hn;obtain⟨i,hi,rfl⟩:=H' hx
  grind[db]
theorem cx{l:List α}{p:α->Option Bool}(q:α->Bool) (a:∀x∈l,p x=M (q x)) (hl:l.length<4611686018427387904) {o:Option (Unit⊕Int)}
 (ho:o=ca (λ(s:Int)=>if s<(a00 l:Int)then(c! l s).bind λx=>(p x).bind λc=>if c=a38 then M (l? s)else M (i! (aa .i64 (s+1)))else M (i? ())) 0) :
 ((o.bind λy=>match y with|.inr v=>M v|.inl _=>M (-1)).bind λx=>M (s6 (0<=x)))=M (l.any q):=by
 rw[ho,bl2 q a hl];rw[←Wv (q:=q) (g:=λi=>(i:Int))]
 cases h:ff (λi=>if(l[i]?.any q)=a38 then M (i:Int)else s5) l.length with
 |none=>simp[Rb]
 |some v=>
  grind[Rb,Qa]
end Go.Tm
set_option maxRecDepth 10000
namespace Go.Proofs.Dev
open Go Go.Tm
variable {s:ByteArray}{op:Int}
def am5(c:Int):Bool:=s6 (97<=c)&&s6 (c<=122)
def bp6(c:Int):Bool:=s6 (48<=c)&&s6 (c<=57)
def PX(c:Int):Bool:=am5 c || bp6 c || c==95
theorem vF{a b c:Int}:(b? (if a<=c then M (s6 (c<=b))else M a39) λj=>M j)=M (s6 (a<=c)&&s6 (c<=b)):=by
 grind
def TD(c:Int):nu c=M (am5 c):=vF
def qM(c:Int):Vx c=M (bp6 c):=vF
theorem aH(c:Int):My c=M (am5 c):=vF
theorem RQ(c:Int):vB c=M (bp6 c):=vF
theorem aU(c:Int):qA c=M (PX c):=by
 grind[qA,PX,aH,RQ]
def sz(s:ByteArray) (i:Nat):Bool:=if h:i<s.size then PX (s[i].toNat:Int)else a39
def SF(s:ByteArray):Bool:=(ff (λi=>if sz s i=a38 then s5 else M ()) s.size).isNone
theorem xH(hs:s.size<4611686018427387904):∃n,qo s=M n/\(n=(s.size:Int)↔SF s=a38):=by
 have hstep:∀i:Nat,i<s.size->Qe s (i:Int)=M (if sz s i=a38 then .go ((i+1:Nat):Int)else .brk (i:Int)):=by
  intro i hi;unfold Qe;rw[J,xS hi,a!];simp only[TD,qM,a!,sz,dif_pos hi,PX]
  grind[f?]
 have w1:∀i,(if sz s i=a38 then s5 else M ())=s5->sz s i=a38:=λi h=>by
  simp_all
 unfold qo
 cases h:ff (λi=>if sz s i=a38 then s5 else M ()) s.size with
 |none=>
  have a:=db.1 h;have hl:ca (Qe s) 0=M (.inl (s.size:Int)):=Nc (λi=>(i:Int)) s.size (s.size:Int)
   (λi hi=>l5) (by grind[Qe])
  rw[hl];exact⟨_,rfl,by grind[SF]⟩
 |some v=>
  obtain⟨k,a,h2,h3⟩:=Qa.1 h;have hl:ca (Qe s) 0=M (.inl (k:Int)):=Nc (λi=>(i:Int)) k (k:Int)
   (λi hi=>o4) (by
    simp_all)
  rw[hl];exact⟨_,rfl,by grind[SF]⟩
noncomputable def TK:List ByteArray:=(Ei).getD []
theorem an7{p:Prop} [Decidable p] {b:Bool}:(if p then M a38 else M b)=M (decide p || b):=by
 grind
def Q6{a:ByteArray}{l:List ByteArray}:((a::l).any λr=>s6 (s=r))=(s6 (s=a) || (l.any λr=>s6 (s=r))):=rfl
def av1:(([]:List ByteArray).any λr=>s6 (s=r))=a39:=rfl
theorem B0(s:ByteArray):ug s=M (TK.any λr=>s6 (s=r)):=by
 unfold ug TK Ei;simp (config := { maxSteps := 4000000 }) only[κ,Q6,av1,an7,a!,Gae];simp
theorem ZZ(s:ByteArray):∃b,ug s=M b:=by
 unfold ug;simp (config := { maxSteps := 4000000 }) only[an7,a!];simp
noncomputable def aD9(s:ByteArray):Bool:=(ug s).getD a39
theorem xP(s:ByteArray):ug s=M (aD9 s):=by
 obtain⟨b,h⟩:=ZZ s
 grind[aD9]
noncomputable def fo(s:ByteArray):Bool:=if h:0<s.size/\s.size<=16 then am5 (s[0].toNat:Int)&&SF s&&!(aD9 s)else a39
theorem xR:s=n? #[]↔s.size=0:=by
 constructor
 .rintro rfl;rfl
 .intro h;obtain⟨a⟩:=s;congr 1;exact Array.eq_empty_of_size_eq_zero h
theorem tv(b:s.size<4611686018427387904):kc s=M (fo s):=by
 obtain⟨n,hn,a⟩:=xH b;unfold kc fo;by_cases h0:s.size=0
 .simp_all[xR]
 .have hx:CA s 0=M (s[0].toNat:Int):=xS (i:=0) U;rw[J (by grind[xR]),hx];simp only[a!,TD,hn,a,xP]
  grind
theorem js(hs:s.size<4611686018427387904):Mb s=M (fo s):=by
 unfold Mb fo;by_cases h:0<s.size/\s.size<=16
 .have hx:CA s 0=M (s[0].toNat:Int):=xS (i:=0) U;have a:aD9 s=TK.any λr=>s6 (s=r):=J' ((xP s).symm.trans (B0 s));rw[dif_pos h,J,J,hx,a];simp only[a!,aH]
  cases hl:am5 (s[0].toNat:Int)with
  |false=>simp
  |true=>
   have b:ca (qh s) 0=M (Rb () (ff (λi=>if sz s i=a38 then s5 else M a39) s.size)):=
    Gb (λi=>(i:Int)) _ s.size () (λi hi _=>by
     unfold qh;rw[J,xS hi];simp only[a!,aU,sz,dif_pos hi];rw[f? U U];cases PX (s[i].toNat:Int)<;>rfl) (λ_=>by grind[qh])
   have e:Ei=M TK:=by grind[TK,Ei]
   have hlen:TK.length=55:=by unfold TK Ei;rfl
   have c:ca (ph s TK) 0=M (Rb () (ff (λi=>if(TK[i]?.any λr=>s6 (s=r))=a38 then M a39 else s5) TK.length)):=
    Gb (λi=>(i:Int)) _ TK.length () (λi hi _=>by
     unfold ph;rw[J,va hi,n! hi];simp only[a!,xac,w3];rw[f? U U];by_cases he:s=TK[i]
     .rw[J he.symm,J he];rfl
     .rw[p6 (λh=>he h.symm),p6 he];rfl) (λ_=>by grind[ph])
   simp only[Φ,t!,u4,b,e,a!];have ha:=Wv (l:=TK) (q:=λr=>s6 (s=r)) (g:=λ_=>a39);have hw:SF s=(ff (λi=>if sz s i=a38 then s5 else M a39) s.size).isNone:=by
    unfold SF
    cases d:ff (λi=>if sz s i=a38 then s5 else M ()) s.size with
    |none=>
     grind[db]
    |some v=>
     obtain⟨k,k1,k2,k3⟩:=Qa.1 d
     cases h2:ff (λi=>if sz s i=a38 then s5 else M a39) s.size with
     |some _=>rfl
     |none=>
      grind[db]
   rw[hw,←ha]
   cases d:ff (λi=>if sz s i=a38 then s5 else M a39) s.size with
   |some v=>
    grind[Rb,Qa]
   |none=>
    simp only[Rb,c,a!,Option.isNone_none,Ο]
    grind[Qa]
 grind
def la(t:ej) (e:List nb):Bool:=
 if t.a=6 then s6 (0<=t.g)&&s6 (t.g<(a00 e:Int))else s6 (1<=t.a)&&s6 (t.a<=5)&&(t.g==0)
noncomputable def vtX(t0:ej) (t1:List nb):Option Bool:=
 if t0.a=6 then
  b? (α:=Bool) (
   if 0<=t0.g then
    M (s6 (t0.g<(a00 t1:Int)))
   else
   M a39) λa=>
  M a
 else
 b? (α:=Bool) (
  if 1<=t0.a then
   if t0.a<=5 then
    M (t0.g==0)
   else
   M a39
  else
  M a39) λb=>
 M b
theorem aU3(t:ej) (e:List nb):vtX t e=M (la t e):=by
 grind[vtX,la]
theorem xb(t:ej) (e:List nb):Ec t e=M (la t e):=aU3 t e
theorem Ua(t:ej) (e:List nb):od t e=M (la t e):=by
 rw[←aU3]
 grind[od,vtX]
theorem Z6(t:ej) (e:List nb):Xc t e=Fp t e:=by
 grind[Xc,Fp,Ua,xb]
theorem c7(t:ej) (e:List nb):∃p,Xc t e=M p:=by
 unfold Xc;rw[Ua,a!]
 cases h:la t e with
 |false=>simp
 |true=>
  simp only[P!,u4]
  repeat' split
  all_goals first|exact⟨_,rfl⟩|skip
  have a:t.a=6:=by
   grind[la]
  unfold la at h;rw[J a]at h;simp at h;rw[nh h.1 h.2];simp
noncomputable def xU(t:ej) (e:List nb):Int×Int:=(Xc t e).getD (0,0)
theorem Cl(t:ej) (e:List nb):Xc t e=M (xU t e):=by
 obtain⟨p,hp⟩:=c7 t e
 grind[xU]
theorem yF(t:ej) (e:List nb):Fp t e=M (xU t e):=by rw[←Z6,Cl]
noncomputable def YV(n:Int) (t:ej) (e:List nb):Bool:=s6 ((xU t e).1<=n)&&s6 (n<=(xU t e).2)
theorem dP(n:Int) (t:ej) (e:List nb):ew n t e=M (YV n t e):=by
 grind[ew,YV,yF]
def χ(r:ia):Bool:=s6 (0<=r.n)&&(s6 (r.n<=r.To)&&s6 (r.To<=109573))
theorem Ov(r:ia):pe r=M (χ r):=by
 grind[pe,χ]
theorem cy(r:ia):Xf r=M (χ r):=by
 grind[Xf,χ]
def ND(a b:te):Bool:=χ a.ab&&χ b.ab&&s6 (max a.ab.n b.ab.n<min a.ab.To b.ab.To)&&s6 (max a.Lo b.Lo<min a.Hi b.Hi)
theorem JK(a b:te):Ds a b=M (ND a b):=by
 unfold Ds Ku ND;simp only[cy,a!]
 grind
theorem XK(a b:te):Ts a b=M (ND a b):=by
 unfold Ts Hn Jd ND;simp only[Ov,a!];cases χ a.ab<;>cases χ b.ab<;>simp only[t!,u4,D1,a!,qac,Φ,zae,Ο,yae]
 all_goals grind
noncomputable def eL(x:te) (t:po) (e:List nb):Bool:=
 !(χ x.ab) || s6 (x.ab.n=x.ab.To) || s6 (x.Hi<=x.Lo) || !(YV x.Lo t.af e) || !(YV (aa .i64 (x.Hi-1)) t.af e) || !(YV x.N t.Value e)
theorem SQ(x:te) (t:po) (e:List nb):Ny x t e=M (eL x t e):=by
 unfold Ny eL;simp only[cy,dP,a!]
 grind
noncomputable def UK(t:po) (e:List nb) (i:Nat):Option (Int×Int):=
 match t.Rows[i]? with
 |some x=>if eL x t e=a38 then M ((i:Int),3)else if((t.Rows.take i).any λy=>ND y x)=a38 then M ((i:Int),11)else s5
 |none=>s5
noncomputable def dv(t:po) (e:List nb):Int×Int:=
 if 64<a00 t.Rows then(64,4)else if(la t.af e&&la t.Value e)=a39 then(-1,8)else(ff (UK t e) t.Rows.length).getD (0,0)
theorem mZ{l:List te}{x:te}(hl:l.length<4611686018427387904):∃p,Bc l (λy=>bf y x)=M p/\p.2=l.any λy=>ND y x:=by
 have a:ca (Zb l (λy=>bf y x)) 0=M (Rb () (ff (λi=>if(l[i]?.any λy=>ND y x)=a38 then M ((i:Int),a38)else s5) l.length)):=
  Gb (λi=>(i:Int)) _ l.length () (λi hi _=>by
   unfold Zb;rw[J,va hi,n! hi]
   grind[bf,mE,XK,pa]) (λ_=>by grind[Zb])
 unfold Bc;rw[a,←Wv (q:=λy=>ND y x) (g:=λi=>((i:Int),a38)),a!]
 cases h:ff (λi=>if(l[i]?.any λy=>ND y x)=a38 then M ((i:Int),a38)else s5) l.length with
 |none=>exact⟨_,rfl,rfl⟩
 |some v=>
  obtain⟨k,h1,h2,-⟩:=Qa.1 h;refine⟨_,rfl,?_⟩
  grind
theorem WK(t:po) (e:List nb):Ss t e=M (dv t e):=by
 unfold Ss dv;by_cases a:64<a00 t.Rows
 .grind
 .rw[p6,p6 a];simp only[Ua,Cl,a!];have hl:ca (dn t (xU t.af e) (xU t.Value e)) 0=M (Rb () (ff (UK t e) t.Rows.length)):=
   Gb (λi=>(i:Int)) _ t.Rows.length () (λi hi _=>by
    unfold dn UK;rw[J,va hi,n! hi];simp only[a!,Ov];rw[CB U,pa U];obtain⟨p,hp,hp2⟩:=mZ (l:=t.Rows.take i) (x:=t.Rows[i]) o4
    grind[eL,YV,mE]) (λ_=>by grind[dn])
  rw[hl];cases la t.af e<;>cases la t.Value e<;>simp only[t!,u4,D1,a!,qac,Φ,zae,Ο,yae,P!];cases ff (UK t e) t.Rows.length<;>rfl
theorem IK(t:po) (e:List nb):Cs t e=M (dv t e):=by
 unfold Cs dv;by_cases a:64<a00 t.Rows
 .grind
 .rw[p6,p6 a];simp only[xb,a!];have hl:ca (Dm t e) 0=M (Rb () (ff (UK t e) t.Rows.length)):=
   Gb (λi=>(i:Int)) _ t.Rows.length () (λi hi _=>by
    have b:ca (Bm t (i:Int) t.Rows[i]) 0=M (Rb () (ff (λk=>if((t.Rows.take i)[k]?.any λy=>ND y t.Rows[i])=a38 then M (l? ((i:Int),11))else s5) (t.Rows.take i).length)):=
     Gb (λi=>(i:Int)) _ (t.Rows.take i).length () (λk hk _=>by
      have hk':k<i:=o4
      unfold Bm;rw[J,va U,n! hk]
      grind[mE,JK,pa]) (λ_=>by
       grind[Bm])
    unfold Dm UK;rw[J,va hi,n! hi];simp only[a!,SQ,b];rw[pa U,←Wv (q:=λy=>ND y t.Rows[i]) (g:=λk=>(l? ((i:Int),11):Ex Int Unit (Int×Int)))];cases eL t.Rows[i] t e
    .simp only[t!,u4]
     cases h:ff (λk=>if((t.Rows.take i)[k]?.any λy=>ND y t.Rows[i])=a38 then M (l? ((i:Int),11):Ex Int Unit (Int×Int))else s5) (t.Rows.take i).length with
     |none=>rfl
     |some v=>
      obtain⟨k,h1,h2,-⟩:=Qa.1 h;split at h2
      .injection h2 with h2;subst h2;rfl
      simp_all
    .rfl) (λ_=>by grind[Dm])
  rw[hl];cases la t.af e<;>cases la t.Value e<;>simp only[t!,u4,D1,a!,qac,Φ,zae,Ο,yae,P!];cases ff (UK t e) t.Rows.length<;>rfl
def Kb(op:Int):Int:=
 if(1<=op/\op<=9)\/(35<=op/\op<=39)then 0
 else if op=10\/op=25\/(31<=op/\op<=34)then 1
 else if op=26 then 3
 else if 11<=op/\op<=30 then 2 else -1
theorem NC(h:1<=op/\op<=39):op=1\/op=2\/op=3\/op=4\/op=5\/op=6\/op=7\/op=8\/op=9\/op=10\/op=11\/op=12\/op=13\/op=14\/op=15\/op=16\/op=17\/op=18\/op=19\/op=20\/op=21\/op=22\/op=23\/op=24\/op=25\/op=26\/op=27\/op=28\/op=29\/op=30\/op=31\/op=32\/op=33\/op=34\/op=35\/op=36\/op=37\/op=38\/op=39:=U
theorem TF(h:¬(1<=op/\op<=39)):Kb op = -1:=by
 grind[Kb]
theorem Bp(op:Int):pn op=M (Kb op):=by
 by_cases h:1<=op/\op<=39
 .rcases NC h with h|h|h|h|h|h|h|h|h|h|h|h|h|h|h|h|h|h|h|h|h|h|h|h|h|h|h|h|h|h|h|h|h|h|h|h|h|h|h<;>subst h<;>simp[pn,Kb]
 .rw[TF h];unfold pn;have hn:∀k:Int,1<=k->k<=39->¬op=k:=λk h1 h2 he=>h U;simp[hn]
theorem fy(op:Int):kp op=M (Kb op):=by
 grind[kp,Kb]
def Yc(op:Int):Bool:=s6 ((1<=op/\op<=8)\/(14<=op/\op<=16)\/(33<=op/\op<=34)\/(36<=op/\op<=39))
theorem La(h:1<=op/\op<=39):Nr op=M (Yc op):=by
 rcases NC h with h|h|h|h|h|h|h|h|h|h|h|h|h|h|h|h|h|h|h|h|h|h|h|h|h|h|h|h|h|h|h|h|h|h|h|h|h|h|h<;>subst h<;>simp[Nr,Yc]
theorem Fc(h:1<=op/\op<=39):Pq op=M (Yc op):=by
 rcases NC h with h|h|h|h|h|h|h|h|h|h|h|h|h|h|h|h|h|h|h|h|h|h|h|h|h|h|h|h|h|h|h|h|h|h|h|h|h|h|h<;>subst h<;>simp[Pq,Yc]
def MC(k:Int):Bool:=k==2 || k==3 || k==4
theorem nj(k:Int):Zh k=M (MC k):=by
 grind[Zh,MC]
theorem tA(k:Int):Am k=M (MC k):=by
 grind[Am,MC]
theorem ZD(k:Int):vn k=M (MC k || k==5):=by
 grind[vn,tA]
noncomputable def eb(n:fr) (ops:List ej) (s:pr):Option (ej×Int):=
 b? (α:=Bool) (if¬n.N=0 then(Nr n.Op).bind λx=>M (!x)else M a39) λj=>if j=a38 then M ((ej.mk 0 0),2)else wa n ops s
def cc(n:fr):Prop:=-9223372036854775808<=n.N/\n.N<=9223372036854775807
theorem sU{n:Int}{k:Int}(hk:1<=k) (h:-9223372036854775808<=n/\n<=9223372036854775807):aa .i64 (s? n k)=s? n k:=by
 have h1:(s? n k).natAbs<=n.natAbs:=by
  rw[Yae];exact Nat.div_le_self _ _
 by_cases hn:n = -9223372036854775808
 .by_cases a:k=1
  .subst a;subst hn;rfl
  .have:(s? n k).natAbs<n.natAbs:=by
    rw[Yae];exact Nat.div_lt_self U U
   grind[f?]
 grind[f?]
end Go.Proofs.Dev
set_option maxHeartbeats 1000000
namespace Go.Proofs.Dev
open Go Go.Tm
variable {t a b c t':ej}{k N op f:Int}{n:fr}{s:pr}{α:Type}{x y:α}{l:List α}{u:Bool}{ops:List ej}{i:Nat}{p:List Int}
theorem JJ{e:List nb}(h:la t e=a38) (hk:t.a≠6):t.g=0:=by
 simp_all[la]
theorem Z0{e:List nb}(h1:1<=k) (h2:k<=5):la ⟨k,0⟩ e=a38:=by
 grind[la]
theorem GM{e:List nb}:la ⟨1,0⟩ e=a38:=Z0 U U
theorem IJ{e:List nb}:la ⟨2,0⟩ e=a38:=Z0 U U
theorem MX{e:List nb}:la ⟨3,0⟩ e=a38:=Z0 U U
theorem ab0{e:List nb}:la ⟨4,0⟩ e=a38:=Z0 U U
theorem bv4{e:List nb}:la ⟨5,0⟩ e=a38:=Z0 U U
def NJ(n:fr) (ops:List ej) (s:pr):Prop:=
 eb n ops s=gb n ops s/\∃r,gb n ops s=M r/\(r.2=0->la r.1 s.r=a38)
theorem ak6(hk:1<=k/\k<=5) (hn:n.Op=k):NJ n [] s:=by
 have hu:=La (op:=n.Op) U;have hm:=Fc (op:=n.Op) U;have j:Yc n.Op=a38:=by grind[Yc]
 have hv:la ⟨n.Op,0⟩ s.r=a38:=Z0 U U;have q:gb n [] s=M (if(xU ⟨n.Op,0⟩ s.r).1<=n.N/\n.N<=(xU ⟨n.Op,0⟩ s.r).2 then(⟨n.Op,0⟩,0)else(⟨0,0⟩,3)):=by
  unfold gb yb Oc tn Nb;simp only[yF,hm,j,a!];have l:¬n.Op=6:=U
  have m:¬n.Op=7:=U
  have o:¬n.Op=8:=U
  have p:¬n.Op=9:=U
  have a:¬n.Op=33:=U
  have b:¬n.Op=34:=U
  have c:¬n.Op=35:=U
  have d:¬n.Op=36:=U
  have e:¬n.Op=37:=U
  have f:¬n.Op=38:=U
  have g:¬n.Op=39:=U
  have i:(if n.Op=1 then M a38 else if n.Op=2 then M a38 else if n.Op=3 then M a38 else if n.Op=4 then M a38 else M (n.Op==5))=M a38:=by
   rcases(by omega:n.Op=1\/n.Op=2\/n.Op=3\/n.Op=4\/n.Op=5)with h|h|h|h|h<;>simp[h]
  simp only[i,l,m,o,p,a,b,c,d,e,f,g,xb,hv,a!,D1,u4,vF]
  grind
 have hI:eb n [] s=M (if(xU ⟨n.Op,0⟩ s.r).1<=n.N/\n.N<=(xU ⟨n.Op,0⟩ s.r).2 then(⟨n.Op,0⟩,0)else(⟨0,0⟩,3)):=by
  grind[Ae,xU,wa,eb,Cl]
 refine⟨l5,_,q,?_⟩
 grind
theorem DC:(if¬N=0 then(M a38).bind λx=>M (!x)else M a39)=M a39:=o0
theorem zL:(if¬N=0 then(M a39).bind λx=>M (!x)else M a39)=M (!(N==0)):=by
 grind
theorem PA{Q:α->Prop}:(∃r,M x=M r/\Q r)=Q x:=o0
theorem oB(d:α) (h0:0<=N) (h1:N<(a00 l:Int)):c! l N=M ((l[N.toNat]?).getD d):=by
 grind[nh]
theorem bg7(hN:cc ⟨6,N⟩):NJ ⟨6,N⟩ [] s:=by
 have w:=sU (n:=N) (k:=16) U hN;have hu:=La (op:=6) U;have hm:=Fc (op:=6) U;have a:Yc 6=a38:=rfl;unfold NJ eb wa fu gb yb Oc tn;simp only[w,hu,hm,a,xb,DC];by_cases b:0<=N
 .have hd:0<=s? N 16:=Oad b U;by_cases c:s? N 16<(a00 s.r:Int)
  .rw[oB ⟨Lad,[]⟩ hd c];have hv:la ⟨6,s? N 16⟩ s.r=a38:=by grind[la]
   generalize (s.r[(s? N 16).toNat]?).getD ⟨Lad,[]⟩=m;have e1:¬N<0:=U
   have e2:¬(a00 s.r:Int)<=s? N 16:=U
   by_cases h2:v? N 16<(a00 m.s:Int)
   .have e3:¬(a00 m.s:Int)<=v? N 16:=U
    simp[b,c,h2,hv,e1,e2,e3,PA,-Prod.exists]
   grind
  grind
 simp_all
theorem bg6:NJ ⟨7,N⟩ [] s:=by
 have hu:=La (op:=7) U;have hm:=Fc (op:=7) U;have a:Yc 7=a38:=rfl;unfold NJ eb wa Dc gb yb Oc tn;simp only[hu,hm,a,xb,Ua,DC];by_cases b:0<=N
 .have e1:¬N<0:=U
  by_cases c:N<(a00 s.w:Int)
  .rw[oB ⟨0,0⟩ b c];generalize (s.w[N.toNat]?).getD ⟨0,0⟩=t;obtain⟨e,d⟩:=t;have e2:¬(a00 s.w:Int)<=N:=U
   cases hv:la ⟨e,d⟩ s.r<;>simp[b,c,hv,e1,e2,PA,-Prod.exists]
  simp_all
 grind
theorem bg5:NJ ⟨8,N⟩ [] s:=by
 have hu:=La (op:=8) U;have hm:=Fc (op:=8) U;have a:Yc 8=a38:=rfl;unfold NJ eb wa Dc gb yb Oc tn;simp only[hu,hm,a,xb,Ua,DC];by_cases b:0<=N
 .have e1:¬N<0:=U
  by_cases c:N<(a00 s.d:Int)
  .rw[oB ⟨0,0⟩ b c];generalize (s.d[N.toNat]?).getD ⟨0,0⟩=t;obtain⟨e,d⟩:=t;have e2:¬(a00 s.d:Int)<=N:=U
   cases hv:la ⟨e,d⟩ s.r<;>simp[b,c,hv,e1,e2,PA,-Prod.exists]
  simp_all
 grind
theorem bg4:NJ ⟨9,N⟩ [] s:=by
 have hu:=La (op:=9) U;have hm:=Fc (op:=9) U;have a:Yc 9=a39:=rfl;unfold NJ eb wa gb yb Oc tn Nb;simp only[hu,hm,a,xb,zL];cases N==0<;>simp[bv4,PA,-Prod.exists]
theorem aI0:NJ ⟨35,N⟩ [] s:=by
 have hu:=La (op:=35) U;have hm:=Fc (op:=35) U;have a:Yc 35=a39:=rfl;unfold NJ eb wa Pg gb yb Oc tn Nb;simp only[hu,hm,a,xb,zL];cases hm:s.a9<;>cases N==0<;>simp[hm,IJ,PA,-Prod.exists]
theorem ak5(h:36<=op/\op<=39):NJ ⟨op,N⟩ [] s:=by
 have hu:=La (op:=op) U;have hm:=Fc (op:=op) U;have d:Yc op=a38:=by grind[Yc]
 unfold NJ eb wa Pg Dc gb yb Oc tn;simp only[hu,hm,d,xb,Ua,nj,ZD,DC];cases b:s.a9
 .rcases(by omega:op=36\/op=37\/op=38\/op=39)with h|h|h|h<;>subst h<;>simp[b,PA,-Prod.exists]
 .by_cases a:0<=N
  .have e1:¬N<0:=U
   by_cases c:N<(a00 s.az:Int)
   .rw[oB ⟨0,0⟩ a c];generalize (s.az[N.toNat]?).getD ⟨0,0⟩=t;obtain⟨e,g⟩:=t;have e2:¬(a00 s.az:Int)<=N:=U
    cases hv:la ⟨e,g⟩ s.r
    .rcases(by omega:op=36\/op=37\/op=38\/op=39)with h|h|h|h<;>subst h<;>simp[b,a,c,hv,e1,e2,PA,-Prod.exists]
    .rcases(by omega:op=36\/op=37\/op=38\/op=39)with h|h|h|h<;>subst h<;>simp only[b,a,c,hv,e1,e2,a!,D1,u4,not_true_eq_false,R2,G1,G2,t!,P!,u!,beq_self_eq_true,F!]
     .by_cases f:e=2<;>by_cases k3:e=3<;>simp[f,k3,hv,PA,-Prod.exists]<;>simp_all
     all_goals grind
   .have e2:(a00 s.az:Int)<=N:=U
    rcases(by omega:op=36\/op=37\/op=38\/op=39)with h|h|h|h<;>subst h<;>simp[b,a,c,e1,e2,PA,-Prod.exists]
  .have e1:N<0:=U
   rcases(by omega:op=36\/op=37\/op=38\/op=39)with h|h|h|h<;>subst h<;>simp[b,a,e1,PA,-Prod.exists]
theorem Pd:c! (x::l) 0=M x:=rfl
theorem LI:c! (x::y::l) 1=M y:=rfl
theorem JT{z:α}:c! (x::y::z::l) 2=M z:=rfl
theorem ak4(d:op=10\/op=25\/op=31\/op=32) (ha:la a s.r=a38):NJ ⟨op,N⟩ [a] s:=by
 have hu:=La (op:=op) U;have hm:=Fc (op:=op) U;have e:Yc op=a39:=by grind[Yc]
 unfold NJ eb wa Ka gb yb Oc Kp Nb;simp only[hu,hm,e,zL,nj,tA];obtain⟨c,ae⟩:=a;rcases d with h|h|h|h<;>subst h<;>cases N==0
 .simp
 .cases hn:MC c<;>simp[Pd,hn,ha,PA,-Prod.exists]
 .simp
 .by_cases b:c=1
  .subst b;have:=JJ ha o0
   simp_all[Pd]
  simp_all[Pd]
 .simp
 .by_cases b:c=5<;>simp[Pd,b,IJ,PA,-Prod.exists]
 .simp
 .by_cases b:c=5<;>simp[Pd,b,IJ,PA,-Prod.exists]
theorem aI2(ha:la a s.r=a38):NJ ⟨33,N⟩ [a] s:=by
 have hu:=La (op:=33) U;have hm:=Fc (op:=33) U;have d:Yc 33=a38:=rfl;unfold NJ eb wa uk gb yb Oc Kp;simp only[hu,hm,d,xb,Ua,DC];by_cases b:0<=N
 .have e1:¬N<0:=U
  by_cases c:N<(a00 s.Tables:Int)
  .obtain⟨t,ht⟩:∃t,c! s.Tables N=M t:=⟨_,nh b c⟩;have e2:¬(a00 s.Tables:Int)<=N:=U
   cases hk:la t.af s.r
   .simp[Pd,ht,b,c,e1,e2,hk,PA,-Prod.exists]
   .cases hv:la t.Value s.r
    .simp[Pd,ht,b,c,e1,e2,hk,hv,PA,-Prod.exists]
    .by_cases e:a.a=t.af.a<;>by_cases f:a.g=t.af.g<;>simp[Pd,ht,b,c,e1,e2,hk,hv,e,f,PA,-Prod.exists]
  simp_all[Pd]
 .have e1:N<0:=U
  have e3:¬N<(a00 s.Tables:Int)\/N<(a00 s.Tables:Int):=U
  simp[Pd,b,e1,PA,-Prod.exists]
theorem aI1(hN:cc ⟨34,N⟩) (ha:la a s.r=a38):NJ ⟨34,N⟩ [a] s:=by
 have hu:=La (op:=34) U;have hm:=Fc (op:=34) U;have f:Yc 34=a38:=rfl;have w:=sU (n:=N) (k:=8) U hN;unfold NJ eb wa uk vi gb yb Oc Kp Nb;simp only[hu,hm,f,xb,Ua,DC,w];by_cases c:0<=N
 .have e1:¬N<0:=U
  have hd:0<=s? N 8:=Oad c U;have b:0<=v? N 8:=rae _ c;have e3:¬s? N 8<0:=U
  by_cases p:v? N 8<=5
  .by_cases l:s? N 8<(a00 s.Tables:Int)
   .obtain⟨t,ht⟩:∃t,c! s.Tables (s? N 8)=M t:=⟨_,nh hd l⟩;have e2:¬(a00 s.Tables:Int)<=s? N 8:=U
    obtain⟨_,⟨i,h⟩,⟨m,q⟩,_⟩:=t;obtain⟨j,o⟩:=a;simp only[Pd,ht,c,l,e1,e2,e3,b,p,a!,D1,u4,not_true_eq_false,R2,G1,G2,t!,P!,u!,beq_self_eq_true,F!,Φ,qac];by_cases d:i=3
    .subst d;by_cases e:h=0
     .subst e;rw[show la ⟨3,0⟩ s.r=a38 from MX];by_cases g:m=4
      .subst g
       grind[la]
      grind[la]
     simp_all[la]
    .cases la ⟨i,h⟩ s.r<;>cases la ⟨m,q⟩ s.r<;>by_cases ha3:j=3<;>by_cases hak:j=i<;>by_cases hae:o=h<;>simp_all[PA,-Prod.exists]
   simp_all[Pd]
  simp_all[Pd]
 .have e1:N<0:=U
  simp[Pd,c,e1,PA,-Prod.exists]
theorem aI3(hb:la b s.r=a38):NJ ⟨26,N⟩ [a,b,c] s:=by
 have hu:=La (op:=26) U;have hm:=Fc (op:=26) U;have d:Yc 26=a39:=rfl;unfold NJ eb wa Ka gb yb Oc;simp only[hu,hm,d,zL];obtain⟨bk,be⟩:=b;cases N==0
 .simp
 .by_cases e:a.a=1<;>by_cases f:bk=c.a<;>by_cases k3:be=c.g<;>simp[Pd,LI,JT,e,f,k3,PA,-Prod.exists]
  simp_all
theorem ct7(hm:Pq op=M u) (hr:yb ⟨op,N⟩ s=M a38) (hf:Oc ⟨op,N⟩ s=M a38) {ok:Bool}
 (hd:Ip op a b=M (t,ok)) (hu:u=a38\/N=0):gb ⟨op,N⟩ [a,b] s=M (if ok=a38 then(t,0)else(⟨0,0⟩,8)):=by
 unfold gb;simp only[hm,hr,hf,Pd,LI];rcases hu with rfl|rfl<;>cases ok<;>simp[hd]
theorem ci1(hm:Nr op=M u) (h1:wa ⟨op,N⟩ [a,b] s=(Ka op [a,b]).bind λx=>if x.2=a39 then M (⟨0,0⟩,8)else M (x.1,0)) {ok:Bool}
 (hd:Ka op [a,b]=M (t,ok)) (hu:u=a38\/N=0):eb ⟨op,N⟩ [a,b] s=M (if ok=a38 then(t,0)else(⟨0,0⟩,8)):=by
 unfold eb
 grind
theorem ba6(hop:(11<=op/\op<=24)\/(27<=op/\op<=30)) {ok:Bool}(f:Ka op [a,b]=M (t',ok)) (g:Ip op a b=M (t,ok)) (ht:ok=a38->t'=t/\la t s.r=a38) :
 NJ ⟨op,N⟩ [a,b] s:=by
 have hu:=La (op:=op) U;have hm:=Fc (op:=op) U;have hr:(14<=op/\op<=16)/\yb ⟨op,N⟩ s=M (s6 (0<=N)&&s6 (N<=5))/\wa ⟨op,N⟩ [a,b] s=(if(s6 (0<=N)&&s6 (N<=5))=a38 then(Ka op [a,b]).bind λx=>if x.2=a39 then M (⟨0,0⟩,8)else M (x.1,0)else M (⟨0,0⟩,3))\/
  ¬(14<=op/\op<=16)/\yb ⟨op,N⟩ s=M a38/\wa ⟨op,N⟩ [a,b] s=((Ka op [a,b]).bind λx=>if x.2=a39 then M (⟨0,0⟩,8)else M (x.1,0)):=by
  clear f g ht hu hm;by_cases h:14<=op/\op<=16
  .refine .inl ⟨h,?_,?_⟩
   .grind[yb]
   .unfold wa vi;simp only[vF];rcases(by omega:op=14\/op=15\/op=16)with h|h|h<;>subst h<;>by_cases g1:0<=N<;>by_cases g2:N<=5<;>simp[g1,g2]
  .refine .inr ⟨h,?_,?_⟩
   .unfold yb;rcases(by omega:op=11\/op=12\/op=13\/op=17\/op=18\/op=19\/op=20\/op=21\/op=22\/op=23\/op=24\/op=27\/op=28\/op=29\/op=30)with h|h|h|h|h|h|h|h|h|h|h|h|h|h|h<;>subst h<;>simp
   .unfold wa;rcases(by omega:op=11\/op=12\/op=13\/op=17\/op=18\/op=19\/op=20\/op=21\/op=22\/op=23\/op=24\/op=27\/op=28\/op=29\/op=30)with h|h|h|h|h|h|h|h|h|h|h|h|h|h|h<;>subst h<;>simp
 have hf:Oc ⟨op,N⟩ s=M a38:=by
  unfold Oc;rcases(by omega:op=11\/op=12\/op=13\/op=14\/op=15\/op=16\/op=17\/op=18\/op=19\/op=20\/op=21\/op=22\/op=23\/op=24\/op=27\/op=28\/op=29\/op=30)with h|h|h|h|h|h|h|h|h|h|h|h|h|h|h|h|h|h<;>subst h<;>simp
 have fin:∀(e:Yc op=a38\/N=0),yb ⟨op,N⟩ s=M a38->wa ⟨op,N⟩ [a,b] s=((Ka op [a,b]).bind λx=>if x.2=a39 then M (⟨0,0⟩,8)else M (x.1,0))->NJ ⟨op,N⟩ [a,b] s:=by
  intro e c h2;unfold NJ;rw[ct7 hm c hf g e,ci1 hu h2 f e]
  grind
 rcases hr with⟨h,c,h2⟩|⟨h,c,h2⟩
 .have d:Yc op=a38:=by grind[Yc]
  by_cases hN:(s6 (0<=N)&&s6 (N<=5))=a38
  .simp_all
  .rw[Xac]at hN;rw[hN]at c;rw[hN,p6 o0]at h2;unfold NJ eb gb
   simp_all
 .have d:Yc op=a39:=by grind[Yc]
  by_cases hN:N=0
  .simp_all
  .unfold NJ eb gb
   simp_all
theorem ak2(hop:(11<=op/\op<=24)\/(27<=op/\op<=30)) (ha:la a s.r=a38):NJ ⟨op,N⟩ [a,b] s:=by
 have i:∀k,1<=k->k<=5->a.a=k->a.g=0:=λk g h2 h=>JJ ha U;obtain⟨d,f⟩:=a;obtain⟨bk,be⟩:=b;simp only at i;have hr:∃t t' ok,Ka op [⟨d,f⟩,⟨bk,be⟩]=M (t',ok)/\Ip op ⟨d,f⟩ ⟨bk,be⟩=M (t,ok)/\(ok=a38->t'=t/\la t s.r=a38):=by
  unfold Ka Ip Yn Lz Nb;simp only[Pd,LI,nj,tA,ZD];rcases(by omega:op=11\/op=12\/op=13\/op=14\/op=15\/op=16\/op=17\/op=18\/op=19\/op=20\/op=21\/op=22\/op=23\/op=24\/op=27\/op=28\/op=29\/op=30)with h|h|h|h|h|h|h|h|h|h|h|h|h|h|h|h|h|h<;>subst h
  .by_cases c:d=bk/\f=be
   .cases hn:MC d<;>simp[c,hn,ha]
    all_goals grind
   .simp[c]
  .by_cases c:d=bk/\f=be
   .cases hn:MC d<;>simp[c,hn,ha]
    all_goals grind
   .simp[c]
  .by_cases c:bk=2<;>by_cases e:d=2<;>by_cases k3:d=3<;>simp[c,e,k3,IJ,MX]
  .by_cases c:bk=4<;>by_cases e:d=3<;>by_cases k3:d=4<;>simp[c,e,k3,ab0,MX]
  .by_cases c:bk=2<;>by_cases e:d=2<;>by_cases k3:d=3<;>by_cases k4:bk=3<;>simp[c,e,k3,k4,IJ,MX,ab0]
   all_goals simp_all
  .by_cases c:d=3<;>by_cases e:bk=3<;>simp[c,e]
   simp_all
  .by_cases c:d=bk/\f=be
   .cases hn:MC d<;>by_cases k5:d=5<;>simp[c,hn,k5,ha]
    all_goals grind
   .simp[c]
  .by_cases c:d=bk/\f=be
   .cases hn:MC d<;>by_cases k5:d=5<;>simp[c,hn,k5,ha]
    all_goals grind
   .simp[c]
  .by_cases c:d=bk<;>by_cases e:f=be<;>simp[c,e,GM]
  .by_cases c:d=bk<;>by_cases e:f=be<;>simp[c,e,GM]
  .by_cases c:d=bk/\f=be
   .cases hn:MC d<;>by_cases k5:d=5<;>simp[c,hn,k5,GM]
    all_goals grind[GM]
   .simp[c]
  .by_cases c:d=bk/\f=be
   .cases hn:MC d<;>by_cases k5:d=5<;>simp[c,hn,k5,GM]
    all_goals grind[GM]
   .simp[c]
  .by_cases c:d=1<;>by_cases e:bk=1<;>simp[c,e]
   grind
  .by_cases c:d=1<;>by_cases e:bk=1<;>simp[c,e]
   grind
  .by_cases c:d=5<;>by_cases e:bk=2<;>simp[c,e]
   simp_all
  .by_cases c:d=5<;>by_cases e:bk=2<;>simp[c,e]
   simp_all
  .by_cases c:d=5<;>by_cases e:bk=5<;>simp[c,e,IJ]
  .by_cases c:d=5<;>by_cases e:bk=5<;>simp[c,e,IJ]
 obtain⟨t,t',ok,g,h2,h3⟩:=hr
 grind[ba6]
theorem aH8(e:1<=n.Op/\n.Op<=39) (hN:cc n) (d:(a00 ops:Int)=Kb n.Op) (hv:∀t∈ops,la t s.r=a38):NJ n ops s:=by
 obtain⟨op,N⟩:=n;simp only at e d;unfold Kb at d;by_cases f:(1<=op/\op<=9)\/(35<=op/\op<=39)
 .rw[J f]at d;obtain rfl:ops=[]:=Δ U;rcases(by omega:(1<=op/\op<=5)\/op=6\/op=7\/op=8\/op=9\/op=35\/(36<=op/\op<=39))with h|h|h|h|h|h|h
  .exact ak6 h rfl
  all_goals grind[bg7,bg6,bg5,bg4,aI0,ak5]
 rw[p6 f]at d;by_cases g:op=10\/op=25\/(31<=op/\op<=34)
 .rw[J g]at d;obtain⟨a,rfl⟩:∃a,ops=[a]:=by
   match ops,d with
   |[a],_=>simp
  have ha:=hv a o0;rcases(by omega:(op=10\/op=25\/op=31\/op=32)\/op=33\/op=34)with h|h|h
  all_goals grind[ak4,aI2,aI1]
 rw[p6 g]at d;by_cases h2:op=26
 .rw[J h2]at d;obtain⟨a,b,c,rfl⟩:∃a b c,ops=[a,b,c]:=by
   match ops,d with
   |[a,b,c],_=>simp
  grind[aI3]
 rw[p6 h2,J]at d;obtain⟨a,b,rfl⟩:∃a b,ops=[a,b]:=by
  match ops,d with
  |[a,b],_=>simp
 grind[ak2]
def sd(e:List fr) (i:Nat):fr:=(e[i]?).getD ⟨0,0⟩
theorem Nn{e:List fr}(h:i<a00 e):e[i]=sd e i:=by
 grind[sd]
def Ui(e:List fr):Nat->List Int×List Int
 |0=>([],[])
 |i+1=>
  let p:=Ui e i
  let a:=(Kb (sd e i).Op).toNat
  let f:=if 0<a then(p.2[a00 p.2-a]?).getD 0 else(i:Int)
  (p.1++[f],p.2.take (a00 p.2-a)++[f])
theorem AJ(e:List fr):∀i,(Ui e i).1.length=i
 |0=>rfl
 |i+1=>by simp[Ui,AJ e i]
def QD(e:List fr) (i:Nat):Option (List Int×Int×Int):=
 if Kb (sd e i).Op<0 then M ([],(i:Int),2)
 else if((Ui e i).2.length:Int)<Kb (sd e i).Op then M ([],(i:Int),5)
 else if 12<(Ui e (i+1)).2.length then M ([],(i:Int),16)else s5
def Vp(e:List fr):List Int×Int×Int:=
 if 48<a00 e then([],0,4)else if e.length=0 then([],0,5)
 else match ff (QD e) e.length with
  |some v=>v
  |none=>if 1<(Ui e e.length).2.length then([],(a00 e:Int),4)else((Ui e e.length).1,0,0)
theorem Nx{e:List fr}(h:∀j,j<i->QD e j=s5):(Ui e i).2.length<=12:=by
 cases i with
 |zero=>simp[Ui]
 |succ i=>
  have:=h i U
  grind[QD]
theorem aC3{n:Nat}(hp:p.length=i) (h:i<n):(p++k? (n-i) 0).set i f=p++[f]++k? (n-(i+1)) 0:=by
 obtain⟨k,hk⟩:∃k,n-i=k+1:=⟨n-i-1,U⟩;have hk':n-(i+1)=k:=U
 simp_all[List.replicate_succ]
theorem N3{r:List Int}(hp:p.length=i):(p++[f]++r)[i]?=M f:=by
 simp_all
theorem vt(e:List fr):Zn e=M (Vp e):=by
 unfold Zn Vp;by_cases g:48<a00 e
 .grind
 rw[p6,p6 g];by_cases j:e.length=0
 .simp_all
 rw[p6,p6 j,RA U U,a!];have hl:ca (im e) (k? e.length 0,([]:List Int),0)=M (Rb ((Ui e e.length).1,(Ui e e.length).2) (ff (QD e) e.length)):=by
  refine Gb (λi=>((Ui e i).1++k? (a00 e-i) 0,(Ui e i).2,(i:Int))) (QD e) e.length _ (λi hi hf=>?_) (λ_=>?_) ?_
  .have hs:=Nx hf;have hl:=AJ e i;unfold im QD;simp only;rw[J,va hi,a!,Nn hi,Bp,a!];by_cases ha:Kb (sd e i).Op<0
   .rw[J ha,J ha];rfl
   rw[p6 ha,p6 ha];by_cases hb:((Ui e i).2.length:Int)<Kb (sd e i).Op
   .rw[J hb,J hb];rfl
   rw[p6 hb,p6 hb];obtain⟨a,c⟩:∃a:Nat,Kb (sd e i).Op=a:=⟨(Kb (sd e i).Op).toNat,U⟩;have h:Ui e (i+1)=((Ui e i).1++[if 0<a then((Ui e i).2[(Ui e i).2.length-a]?).getD 0 else(i:Int)],(Ui e i).2.take ((Ui e i).2.length-a)++[if 0<a then((Ui e i).2[(Ui e i).2.length-a]?).getD 0 else(i:Int)]):=by
    grind[Ui]
   have f:aa .i64 (((Ui e i).2.length:Int)-(a:Int))=(((Ui e i).2.length-a:Nat):Int):=by
    grind[f?]
   rw[c,h,f];generalize hS:(Ui e i).2=sk at *;generalize (Ui e i).1=st at *;rw[c]at hb;rw[va (i:=i) o4,a!,oE o4,a!,aC3 hl hi,CB U];by_cases b:0<a
   .have hk:sk.length-a<a00 sk:=U
    rw[J,J b,va hk,a!,va (i:=i) l5,a!,oE l5,a!];have d:(st++[(i:Int)]++k? (a00 e-(i+1)) 0).set i sk[a00 sk-a]=st++[sk[a00 sk-a]]++k? (a00 e-(i+1)) 0:=by
     simp_all
    rw[d,a!,a!,n! hk,κ,ao2,N3 hl,a!];rw[Od o4,a!];by_cases hd:12<(sk.take (a00 sk-a)++[sk[a00 sk-a]]).length
    .grind
    .rw[p6,p6 hd,pa U];rfl
   .rw[p6,p6 b,a!,a!,ao2,N3 hl,a!];rw[Od o4,a!];by_cases hd:12<(sk.take (a00 sk-a)++[(i:Int)]).length
    .rw[J,J hd];rfl
    .rw[p6,p6 hd,pa U];rfl
  all_goals grind[im,Ui]
 grind[Rb]
theorem jw(e:List fr):qj e=M (Vp e):=by
 unfold qj Vp;by_cases f:48<a00 e
 .grind
 rw[p6,p6 f];by_cases j:e.length=0
 .simp_all
 rw[p6,p6 j];have hl:ca (Kk e) (([]:List Int),([]:List Int),0)=M (Rb ((Ui e e.length).1,(Ui e e.length).2) (ff (QD e) e.length)):=by
  refine Gb (λi=>((Ui e i).1,(Ui e i).2,(i:Int))) (QD e) e.length _ (λi hi hf=>?_) (λ_=>?_)
  .have hs:=Nx hf;have hl:=AJ e i;unfold Kk QD;simp only;rw[J,va hi,a!,Nn hi,fy,a!];by_cases ha:Kb (sd e i).Op<0
   .rw[J ha,J ha];rfl
   rw[p6 ha,p6 ha];by_cases hb:((Ui e i).2.length:Int)<Kb (sd e i).Op
   .rw[J hb,J hb];rfl
   rw[p6 hb,p6 hb];obtain⟨a,c⟩:∃a:Nat,Kb (sd e i).Op=a:=⟨(Kb (sd e i).Op).toNat,U⟩;have h:Ui e (i+1)=((Ui e i).1++[if 0<a then((Ui e i).2[(Ui e i).2.length-a]?).getD 0 else(i:Int)],(Ui e i).2.take ((Ui e i).2.length-a)++[if 0<a then((Ui e i).2[(Ui e i).2.length-a]?).getD 0 else(i:Int)]):=by
    grind[Ui]
   have d:aa .i64 (((Ui e i).2.length:Int)-(a:Int))=(((Ui e i).2.length-a:Nat):Int):=by
    grind[f?]
   rw[c,h,d];generalize hS:(Ui e i).2=sk at *;generalize (Ui e i).1=st at *;rw[c]at hb;by_cases b:0<a
   .have hk:sk.length-a<a00 sk:=U
    rw[J,J b,va hk,a!,CB U,a!,a!,n! hk,κ];simp only;rw[Od o4,a!,Od o4,a!];by_cases hd:12<(sk.take (a00 sk-a)++[sk[a00 sk-a]]).length
    .grind
    .rw[p6,p6 hd,pa U];rfl
   .have g:a=0:=U
    subst g;rw[p6,p6 b,a!];simp only[Nat.sub_zero,ν];rw[Od o4,a!,Od o4,a!];by_cases hd:12<(sk++[(i:Int)]).length
    .rw[J,J hd];rfl
    .rw[p6,p6 hd,pa U];rfl
  grind[Kk]
 grind[Rb]
def OJ(n:fr) (ops:List ej) (s:pr):Prop:=∃r,eb n ops s=M r/\(r.2=0->la r.1 s.r=a38)
theorem al1(hk:1<=k/\k<=5) (hn:n.Op=k):OJ n [] s:=by
 have hu:=La (op:=n.Op) U;have hus:Yc n.Op=a38:=by grind[Yc]
 have hv:la ⟨n.Op,0⟩ s.r=a38:=Z0 U U;have a:eb n [] s=M (if(xU ⟨n.Op,0⟩ s.r).1<=n.N/\n.N<=(xU ⟨n.Op,0⟩ s.r).2 then(⟨n.Op,0⟩,0)else(⟨0,0⟩,3)):=by
  grind[Ae,wa,eb,Cl]
 refine⟨_,a,?_⟩
 grind
theorem bh1(hN:cc ⟨6,N⟩):OJ ⟨6,N⟩ [] s:=by
 have w:=sU (n:=N) (k:=16) U hN;have hu:=La (op:=6) U;have c:Yc 6=a38:=rfl;unfold OJ eb wa fu;simp only[w,hu,c,DC];by_cases a:0<=N
 .have hd:0<=s? N 16:=Oad a U;by_cases b:s? N 16<(a00 s.r:Int)
  .rw[oB ⟨Lad,[]⟩ hd b];have hv:la ⟨6,s? N 16⟩ s.r=a38:=by grind[la]
   generalize (s.r[(s? N 16).toNat]?).getD ⟨Lad,[]⟩=m;have e1:¬N<0:=U
   have e2:¬(a00 s.r:Int)<=s? N 16:=U
   by_cases h2:v? N 16<(a00 m.s:Int)
   .have e3:¬(a00 m.s:Int)<=v? N 16:=U
    simp[a,b,h2,hv,e1,e2,e3,PA,-Prod.exists]
   .have e3:(a00 m.s:Int)<=v? N 16:=U
    simp[a,b,h2,hv,e1,e2,e3,PA,-Prod.exists]
  .have e1:¬N<0:=U
   have e2:(a00 s.r:Int)<=s? N 16:=U
   simp[a,b,e1,e2,PA,-Prod.exists]
 simp_all
theorem bh0:OJ ⟨7,N⟩ [] s:=by
 have hu:=La (op:=7) U;have a:Yc 7=a38:=rfl;unfold OJ eb wa Dc;simp only[hu,a,Ua,DC];by_cases b:0<=N
 .have e1:¬N<0:=U
  by_cases c:N<(a00 s.w:Int)
  .rw[oB ⟨0,0⟩ b c];generalize (s.w[N.toNat]?).getD ⟨0,0⟩=t;obtain⟨e,d⟩:=t;have e2:¬(a00 s.w:Int)<=N:=U
   cases hv:la ⟨e,d⟩ s.r<;>simp[b,c,hv,e1,e2,PA,-Prod.exists]
  simp_all
 simp_all
theorem bg9:OJ ⟨8,N⟩ [] s:=by
 have hu:=La (op:=8) U;have a:Yc 8=a38:=rfl;unfold OJ eb wa Dc;simp only[hu,a,Ua,DC];by_cases b:0<=N
 .have e1:¬N<0:=U
  by_cases c:N<(a00 s.d:Int)
  .rw[oB ⟨0,0⟩ b c];generalize (s.d[N.toNat]?).getD ⟨0,0⟩=t;obtain⟨e,d⟩:=t;have e2:¬(a00 s.d:Int)<=N:=U
   cases hv:la ⟨e,d⟩ s.r<;>simp[b,c,hv,e1,e2,PA,-Prod.exists]
  simp_all
 simp_all
theorem bg8:OJ ⟨9,N⟩ [] s:=by
 have hu:=La (op:=9) U;have a:Yc 9=a39:=rfl;unfold OJ eb wa;simp only[hu,a,zL];cases N==0<;>simp[bv4,PA,-Prod.exists]
theorem aI4:OJ ⟨35,N⟩ [] s:=by
 have hu:=La (op:=35) U;have a:Yc 35=a39:=rfl;unfold OJ eb wa Pg;simp only[hu,a,zL];cases hm:s.a9<;>cases N==0<;>simp[IJ,PA,-Prod.exists]
theorem al0(h:36<=op/\op<=39):OJ ⟨op,N⟩ [] s:=by
 have hu:=La (op:=op) U;have e:Yc op=a38:=by grind[Yc]
 unfold OJ eb wa Pg Dc;simp only[hu,e,Ua,nj,DC];cases c:s.a9
 .rcases(by omega:op=36\/op=37\/op=38\/op=39)with h|h|h|h<;>subst h<;>simp[c,PA,-Prod.exists]
 .by_cases b:0<=N
  .have e1:¬N<0:=U
   by_cases d:N<(a00 s.az:Int)
   .rw[oB ⟨0,0⟩ b d];generalize (s.az[N.toNat]?).getD ⟨0,0⟩=t;obtain⟨a,i⟩:=t;have e2:¬(a00 s.az:Int)<=N:=U
    cases hv:la ⟨a,i⟩ s.r
    .rcases(by omega:op=36\/op=37\/op=38\/op=39)with h|h|h|h<;>subst h<;>simp[c,b,d,hv,e1,e2,PA,-Prod.exists]
    .rcases(by omega:op=36\/op=37\/op=38\/op=39)with h|h|h|h<;>subst h<;>simp only[c,b,d,hv,e1,e2,a!,D1,u4,not_true_eq_false,R2,G1,G2,t!,P!,u!,beq_self_eq_true,F!]
     .by_cases g:a=2<;>by_cases k3:a=3<;>simp[g,k3,hv,PA,-Prod.exists]<;>simp_all
     .by_cases f:a=1<;>simp[f,hv,PA,-Prod.exists]<;>simp_all
     .by_cases f:a=1<;>simp[f,hv,PA,-Prod.exists]<;>simp_all
     .cases MC a<;>by_cases k5:a=5<;>simp[k5,hv,PA,-Prod.exists]<;>simp_all
   .have e2:(a00 s.az:Int)<=N:=U
    rcases(by omega:op=36\/op=37\/op=38\/op=39)with h|h|h|h<;>subst h<;>simp[c,b,d,e1,e2,PA,-Prod.exists]
  .have e1:N<0:=U
   rcases(by omega:op=36\/op=37\/op=38\/op=39)with h|h|h|h<;>subst h<;>simp[c,b,e1,PA,-Prod.exists]
theorem ak9(d:op=10\/op=25\/op=31\/op=32) (ha:la a s.r=a38):OJ ⟨op,N⟩ [a] s:=by
 have hu:=La (op:=op) U;have e:Yc op=a39:=by grind[Yc]
 unfold OJ eb wa Ka;simp only[hu,e,zL,nj];obtain⟨c,ae⟩:=a;rcases d with h|h|h|h<;>subst h<;>cases N==0
 .simp
 .cases hn:MC c<;>simp[Pd,hn,ha,PA,-Prod.exists]
 .simp
 .by_cases b:c=1
  .subst b;have:=JJ ha o0
   simp_all[Pd]
  simp_all[Pd]
 .simp
 .by_cases b:c=5<;>simp[Pd,b,IJ,PA,-Prod.exists]
 .simp
 .by_cases b:c=5<;>simp[Pd,b,IJ,PA,-Prod.exists]
theorem aI6(ha:la a s.r=a38):OJ ⟨33,N⟩ [a] s:=by
 have hu:=La (op:=33) U;have d:Yc 33=a38:=rfl;unfold OJ eb wa uk;simp only[hu,d,Ua,DC];by_cases b:0<=N
 .have e1:¬N<0:=U
  by_cases c:N<(a00 s.Tables:Int)
  .obtain⟨t,ht⟩:∃t,c! s.Tables N=M t:=⟨_,nh b c⟩;have e2:¬(a00 s.Tables:Int)<=N:=U
   cases hk:la t.af s.r
   .simp[Pd,ht,b,c,e1,e2,hk,PA,-Prod.exists]
   .cases hv:la t.Value s.r
    .simp[Pd,ht,b,c,e1,e2,hk,hv,PA,-Prod.exists]
    .by_cases e:a.a=t.af.a<;>by_cases f:a.g=t.af.g<;>simp[Pd,ht,b,c,e1,e2,hk,hv,e,f,PA,-Prod.exists]
  simp_all[Pd]
 .have e1:N<0:=U
  have e3:¬N<(a00 s.Tables:Int)\/N<(a00 s.Tables:Int):=U
  simp[Pd,b,e1,PA,-Prod.exists]
theorem aI5(hN:cc ⟨34,N⟩) (ha:la a s.r=a38):OJ ⟨34,N⟩ [a] s:=by
 have hu:=La (op:=34) U;have j:Yc 34=a38:=rfl;have w:=sU (n:=N) (k:=8) U hN;unfold OJ eb wa uk vi;simp only[hu,j,Ua,DC,w];by_cases g:0<=N
 .have e1:¬N<0:=U
  have hd:0<=s? N 8:=Oad g U;have d:0<=v? N 8:=rae _ g;have e3:¬s? N 8<0:=U
  by_cases v:v? N 8<=5
  .by_cases u:s? N 8<(a00 s.Tables:Int)
   .obtain⟨t,ht⟩:∃t,c! s.Tables (s? N 8)=M t:=⟨_,nh hd u⟩;have e2:¬(a00 s.Tables:Int)<=s? N 8:=U
    obtain⟨_,⟨o,m⟩,⟨q,p⟩,_⟩:=t;obtain⟨f,r⟩:=a;simp only[Pd,ht,g,u,e1,e2,e3,d,v,a!,D1,u4,not_true_eq_false,R2,G1,G2,t!,P!,u!,beq_self_eq_true,F!,Φ,qac];by_cases h:o=3
    .subst h;by_cases i:m=0
     .subst i;rw[show la ⟨3,0⟩ s.r=a38 from MX];by_cases e:q=4
      .subst e;by_cases l:p=0
       .subst l;rw[show la ⟨4,0⟩ s.r=a38 from ab0];by_cases b:f=3
        .subst b;have:=JJ ha o0
         simp_all
        simp_all
       simp_all[la]
      .cases la ⟨q,p⟩ s.r<;>by_cases b:f=3<;>by_cases c:r=0<;>simp[b,c,e,PA,-Prod.exists]
     simp_all[la]
    .cases la ⟨o,m⟩ s.r<;>cases la ⟨q,p⟩ s.r<;>by_cases b:f=3<;>by_cases hak:f=o<;>by_cases c:r=m<;>simp_all[PA,-Prod.exists]
   simp_all[Pd]
  simp_all[Pd]
 simp_all[Pd]
theorem aI7(hb:la b s.r=a38):OJ ⟨26,N⟩ [a,b,c] s:=by
 have hu:=La (op:=26) U;have d:Yc 26=a39:=rfl;unfold OJ eb wa Ka;simp only[hu,d,zL];obtain⟨bk,be⟩:=b;cases N==0
 .simp
 .by_cases e:a.a=1<;>by_cases f:bk=c.a<;>by_cases k3:be=c.g<;>simp[Pd,LI,JT,e,f,k3,PA,-Prod.exists]
  simp_all
theorem ay4(hop:(11<=op/\op<=24)\/(27<=op/\op<=30)) {ok:Bool}(d:Ka op [a,b]=M (t',ok)) (ht:ok=a38->la t' s.r=a38) :
 OJ ⟨op,N⟩ [a,b] s:=by
 have hu:=La (op:=op) U;have hr:(14<=op/\op<=16)/\wa ⟨op,N⟩ [a,b] s=(if(s6 (0<=N)&&s6 (N<=5))=a38 then(Ka op [a,b]).bind λx=>if x.2=a39 then M (⟨0,0⟩,8)else M (x.1,0)else M (⟨0,0⟩,3))\/
  ¬(14<=op/\op<=16)/\wa ⟨op,N⟩ [a,b] s=((Ka op [a,b]).bind λx=>if x.2=a39 then M (⟨0,0⟩,8)else M (x.1,0)):=by
  clear d ht hu;by_cases h:14<=op/\op<=16
  .refine .inl ⟨h,?_⟩
   .unfold wa vi;simp only[vF];rcases(by omega:op=14\/op=15\/op=16)with h|h|h<;>subst h<;>by_cases g1:0<=N<;>by_cases g2:N<=5<;>simp[g1,g2]
  .refine .inr ⟨h,?_⟩
   .unfold wa;rcases(by omega:op=11\/op=12\/op=13\/op=17\/op=18\/op=19\/op=20\/op=21\/op=22\/op=23\/op=24\/op=27\/op=28\/op=29\/op=30)with h|h|h|h|h|h|h|h|h|h|h|h|h|h|h<;>subst h<;>simp
 have fin:∀(e:Yc op=a38\/N=0),wa ⟨op,N⟩ [a,b] s=((Ka op [a,b]).bind λx=>if x.2=a39 then M (⟨0,0⟩,8)else M (x.1,0))->OJ ⟨op,N⟩ [a,b] s:=by
  intro e h2;unfold OJ;rw[ci1 hu h2 d e]
  grind
 rcases hr with⟨h,h2⟩|⟨h,h2⟩
 .have c:Yc op=a38:=by grind[Yc]
  by_cases hN:(s6 (0<=N)&&s6 (N<=5))=a38
  .simp_all
  .rw[Xac]at hN;rw[hN,p6 o0]at h2;unfold OJ eb
   simp_all
 .have c:Yc op=a39:=by grind[Yc]
  by_cases hN:N=0
  .simp_all
  .unfold OJ eb
   simp_all
theorem ak8(hop:(11<=op/\op<=24)\/(27<=op/\op<=30)) (ha:la a s.r=a38):OJ ⟨op,N⟩ [a,b] s:=by
 have i:∀k,1<=k->k<=5->a.a=k->a.g=0:=λk g h2 h=>JJ ha U;obtain⟨d,f⟩:=a;obtain⟨bk,be⟩:=b;simp only at i;have hr:∃t' ok,Ka op [⟨d,f⟩,⟨bk,be⟩]=M (t',ok)/\(ok=a38->la t' s.r=a38):=by
  unfold Ka Yn;simp only[Pd,LI,nj];rcases(by omega:op=11\/op=12\/op=13\/op=14\/op=15\/op=16\/op=17\/op=18\/op=19\/op=20\/op=21\/op=22\/op=23\/op=24\/op=27\/op=28\/op=29\/op=30)with h|h|h|h|h|h|h|h|h|h|h|h|h|h|h|h|h|h<;>subst h
  .by_cases c:d=bk/\f=be
   .cases hn:MC d<;>simp[c,hn,ha]
    all_goals grind
   .simp[c]
  .by_cases c:d=bk/\f=be
   .cases hn:MC d<;>simp[c,hn,ha]
    all_goals grind
   .simp[c]
  .by_cases c:bk=2<;>by_cases e:d=2<;>by_cases k3:d=3<;>simp[c,e,k3,IJ,MX]
  .by_cases c:bk=4<;>by_cases e:d=3<;>by_cases k3:d=4<;>simp[c,e,k3,ab0,MX]
  .by_cases c:bk=2<;>by_cases e:d=2<;>by_cases k3:d=3<;>by_cases k4:bk=3<;>simp[c,e,k3,k4,IJ,MX,ab0]
   all_goals simp_all
  .by_cases c:d=3<;>by_cases e:bk=3<;>simp[c,e]
   simp_all
  .by_cases c:d=bk/\f=be
   .cases hn:MC d<;>by_cases k5:d=5<;>simp[c,hn,k5,ha]
    all_goals grind
   .simp[c]
  .by_cases c:d=bk/\f=be
   .cases hn:MC d<;>by_cases k5:d=5<;>simp[c,hn,k5,ha]
    all_goals grind
   .simp[c]
  .by_cases c:d=bk<;>by_cases e:f=be<;>simp[c,e,GM]
  .by_cases c:d=bk<;>by_cases e:f=be<;>simp[c,e,GM]
  .by_cases c:d=bk/\f=be
   .cases hn:MC d<;>by_cases k5:d=5<;>simp[c,hn,k5,GM]
    all_goals grind[GM]
   .simp[c]
  .by_cases c:d=bk/\f=be
   .cases hn:MC d<;>by_cases k5:d=5<;>simp[c,hn,k5,GM]
    all_goals grind[GM]
   .simp[c]
  .by_cases c:d=1<;>by_cases e:bk=1<;>simp[c,e]
   grind
  .by_cases c:d=1<;>by_cases e:bk=1<;>simp[c,e]
   grind
  .by_cases c:d=5<;>by_cases e:bk=2<;>simp[c,e]
   simp_all
  .by_cases c:d=5<;>by_cases e:bk=2<;>simp[c,e]
   simp_all
  .by_cases c:d=5<;>by_cases e:bk=5<;>simp[c,e,IJ]
  .by_cases c:d=5<;>by_cases e:bk=5<;>simp[c,e,IJ]
 obtain⟨t',ok,g,h3⟩:=hr
 grind[ay4]
theorem O4(e:1<=n.Op/\n.Op<=39) (hN:cc n) (d:(a00 ops:Int)=Kb n.Op) (hv:∀t∈ops,la t s.r=a38):OJ n ops s:=by
 obtain⟨op,N⟩:=n;simp only at e d;unfold Kb at d;by_cases f:(1<=op/\op<=9)\/(35<=op/\op<=39)
 .rw[J f]at d;obtain rfl:ops=[]:=Δ U;rcases(by omega:(1<=op/\op<=5)\/op=6\/op=7\/op=8\/op=9\/op=35\/(36<=op/\op<=39))with h|h|h|h|h|h|h
  .exact al1 h rfl
  all_goals grind[bh1,bh0,bg9,bg8,aI4,al0]
 rw[p6 f]at d;by_cases g:op=10\/op=25\/(31<=op/\op<=34)
 .rw[J g]at d;obtain⟨a,rfl⟩:∃a,ops=[a]:=by
   match ops,d with
   |[a],_=>simp
  have ha:=hv a o0;rcases(by omega:(op=10\/op=25\/op=31\/op=32)\/op=33\/op=34)with h|h|h
  all_goals grind[ak9,aI6,aI5]
 rw[p6 g]at d;by_cases h2:op=26
 .rw[J h2]at d;obtain⟨a,b,c,rfl⟩:∃a b c,ops=[a,b,c]:=by
   match ops,d with
   |[a,b,c],_=>simp
  grind[aI7]
 rw[p6 h2,J]at d;obtain⟨a,b,rfl⟩:∃a b,ops=[a,b]:=by
  match ops,d with
  |[a,b],_=>simp
 grind[ak8]
def Kj(e:List fr) (i:Nat):Nat:=(Kb (sd e i).Op).toNat
noncomputable def fH(e:List fr) (s:pr) (st:List ej) (i:Nat):ej×Int:=(eb (sd e i) (st.drop (a00 st-Kj e i)) s).getD (⟨0,0⟩,0)
noncomputable def JA(e:List fr) (s:pr):Nat->List ej
 |0=>[]
 |i+1=>(JA e s i).take ((JA e s i).length-Kj e i)++[(fH e s (JA e s i) i).1]
noncomputable def LG(e:List fr) (s:pr) (i:Nat):Option (ej×Int×Int):=
 if(fH e s (JA e s i) i).2=0 then s5 else M (⟨0,0⟩,(i:Int),(fH e s (JA e s i) i).2)
noncomputable def EB(e:List fr) (s:pr):ej×Int×Int:=
 if(Vp e).2.2=0 then(match ff (LG e s) e.length with|some v=>v|none=>((JA e s e.length)[0]?.getD ⟨0,0⟩,0,0))else(⟨0,0⟩,(Vp e).2.1,(Vp e).2.2)
structure W! (e:List fr):Prop where
 pos:0<a00 e
 le:e.length<=48
 err:∀i,i<a00 e->QD e i=s5
 one:(Ui e e.length).2.length<=1
variable {e:List fr}
theorem fL(h:(Vp e).2.2=0):W! e:=by
 unfold Vp at h;split at h
 .grind
 split at h
 .grind
 rename_i h48 h0;split at h
 .grind[QD,Qa]
 .rename_i hn;split at h
  .grind
  .exact⟨U,U,db.1 hn,U⟩
theorem W!.ar(h:W! e) (hi:i<a00 e):0<=Kb (sd e i).Op/\Kj e i<=(Ui e i).2.length/\(1<=(sd e i).Op/\(sd e i).Op<=39):=by
 have:=h.err i hi
 grind[QD,Kj,TF]
theorem MP:(Ui e (i+1)).2.length=(Ui e i).2.length-Kj e i+1:=by
 simp[Ui,Kj]
theorem al4(hN:∀n∈e,cc n) (hi:i<a00 e):cc (sd e i):=by
 rw[←Nn hi];simp_all
theorem ID{e:List fr}{s:pr}(h:W! e) (hN:∀n∈e,cc n):∀i,i<=a00 e->(∀j,j<i->LG e s j=s5)->(JA e s i).length=(Ui e i).2.length/\∀t∈JA e s i,la t s.r=a38
 |0,_,_=>by simp[JA,Ui]
 |i+1,hi,ht=>by
  obtain⟨h1,h2⟩:=ID h hN i U λj hj=>ht j U;obtain⟨a1,a2,a3⟩:=h.ar (i:=i) U;refine⟨by grind[JA,MP],?_⟩;intro t hm;simp only[JA,List.mem_append,Tab]at hm;rcases hm with hm|rfl
  .grind
  .obtain⟨r,hr,hv⟩:=O4 (n:=sd e i) (ops:=(JA e s i).drop ((JA e s i).length-Kj e i)) (s:=s) a3 (al4 hN U) (by grind[Kj]) (λt ht=>h2 t (oad ht));have hz:=ht i U
   grind[LG,fH]
theorem MO(h:W! e) (hN:∀n∈e,cc n) (hi:i<a00 e) (ht:∀j,j<i->LG e s j=s5) :
 eb (sd e i) ((JA e s i).drop ((JA e s i).length-Kj e i)) s=M (fH e s (JA e s i) i):=by
 obtain⟨h1,h2⟩:=ID h hN i U ht;obtain⟨a1,a2,a3⟩:=h.ar hi;obtain⟨r,hr,hv⟩:=O4 (n:=sd e i) (ops:=(JA e s i).drop ((JA e s i).length-Kj e i)) (s:=s) a3 (al4 hN hi) (by grind[Kj]) (λt ht=>h2 t (oad ht))
 grind[fH]
theorem aH9(h:W! e) (hN:∀n∈e,cc n) (hi:i<a00 e) (ht:∀j,j<i->LG e s j=s5) :
 eb (sd e i) ((JA e s i).drop ((JA e s i).length-Kj e i)) s=M (fH e s (JA e s i) i)/\gb (sd e i) ((JA e s i).drop ((JA e s i).length-Kj e i)) s=M (fH e s (JA e s i) i):=by
 obtain⟨h1,h2⟩:=ID h hN i U ht;obtain⟨a1,a2,a3⟩:=h.ar hi;obtain⟨e1,r,hr,hv⟩:=aH8 (n:=sd e i) (ops:=(JA e s i).drop ((JA e s i).length-Kj e i)) (s:=s) a3 (al4 hN hi) (by grind[Kj]) (λt ht=>h2 t (oad ht))
 grind[MO]
theorem eP(hN:∀n∈e,cc n) (s:pr):gw e s=M (EB e s):=by
 unfold gw EB;rw[jw,a!];by_cases c:(Vp e).2.2=0
 .rw[p6,J c];have hw:=fL c;have hl:ca (qq e s) (([]:List ej),0)=M (Rb (JA e s e.length) (ff (LG e s) e.length)):=by
   refine Gb (λi=>(JA e s i,(i:Int))) (LG e s) e.length _ (λi hi ht=>?_) (λ_=>?_)
   .obtain⟨n1,f⟩:=aH9 hw hN hi ht;obtain⟨d,h2⟩:=ID hw hN i U ht;obtain⟨a1,a2,a3⟩:=hw.ar hi;have hle:=hw.le;have h12:=Nx (e:=e) (i:=i) λj hj=>hw.err j U;unfold qq LG;simp only;have a:aa .i64 (((JA e s i).length:Int)-Kb (sd e i).Op)=(((JA e s i).length-Kj e i:Nat):Int):=by
     grind[Kj,f?]
    rw[J,va hi,a!,Nn hi,fy,a!,a,U5 U,a!,f,a!];by_cases b:(fH e s (JA e s i) i).2=0
    .rw[p6,J b,CB U,a!,Od o4,a!,pa U];rfl
    .rw[J b,p6 b];rfl
   grind[qq]
  rw[hl]
  cases hf:ff (LG e s) e.length with
  |some v=>rfl
  |none=>
   obtain⟨d,h2⟩:=ID (s:=s) hw hN e.length U (db.1 hf);have:0<(JA e s e.length).length:=by
    rw[d];obtain⟨k,hk⟩:∃k,a00 e=k+1:=⟨a00 e-1,by have:=hw.pos;omega⟩
    grind[MP]
   simp only[Rb,a!];rw[show(0:Int)=((0:Nat):Int)from rfl,va this,a!,n! this];rfl
 simp_all
theorem DQ(hN:∀n∈e,cc n) (s:pr):vy e s=M (EB e s):=by
 unfold vy EB;rw[vt,a!];by_cases f:(Vp e).2.2=0
 .rw[p6,J f];have hw:=fL f;have hl:ca (Mr e s) (([]:List ej),0)=M (Rb (JA e s e.length) (ff (LG e s) e.length)):=by
   refine Gb (λi=>(JA e s i,(i:Int))) (LG e s) e.length _ (λi hi ht=>?_) (λ_=>?_)
   .have a:=MO hw hN hi ht;obtain⟨g,h2⟩:=ID hw hN i U ht;obtain⟨a1,a2,a3⟩:=hw.ar hi;have hle:=hw.le;have h12:=Nx (e:=e) (i:=i) λj hj=>hw.err j U;unfold Mr LG;simp only;have b:aa .i64 (((JA e s i).length:Int)-Kb (sd e i).Op)=(((JA e s i).length-Kj e i:Nat):Int):=by
     grind[Kj,f?]
    rw[J,va hi,a!,Nn hi];unfold eb at a;rw[La a3]at a⊢;have hj:(if¬(sd e i).N=0 then(M (Yc (sd e i).Op)).bind λh=>M (!h)else M a39)=M (!(sd e i).N==0&&!Yc (sd e i).Op):=by
     grind
    rw[hj]at a⊢;rw[a!]at a⊢;generalize (!(sd e i).N==0&&!Yc (sd e i).Op)=c at a⊢;cases c
    .rw[p6 o0]at a⊢;rw[Bp,a!,b,U5 U,a!,a,a!];by_cases d:(fH e s (JA e s i) i).2=0
     .rw[p6,J d,CB U,a!,Od o4,a!,pa U];rfl
     .rw[J d,p6 d];rfl
    .rw[J rfl]at a⊢;injection a with a;rw[←a,p6 p5];rfl
   grind[Mr]
  rw[hl]
  cases hf:ff (LG e s) e.length with
  |some v=>rfl
  |none=>
   obtain⟨g,h2⟩:=ID (s:=s) hw hN e.length U (db.1 hf);have:0<(JA e s e.length).length:=by
    rw[g];obtain⟨k,hk⟩:∃k,a00 e=k+1:=⟨a00 e-1,by have:=hw.pos;omega⟩
    grind[MP]
   simp only[Rb,a!];rw[show(0:Int)=((0:Nat):Int)from rfl,va this,a!,n! this];rfl
 simp_all
end Go.Proofs.Dev
namespace Go.Tm
theorem LC{x n:Int}:∀{l:List Int},x∈qm l n↔x∈l\/x=n
 |[]=>by simp[qm]
 |y::l=>by
  simp only[qm];split
  .grind
  .simp only[Z',LC (l:=l)];grind
abbrev RX(l:List Int):Prop:=l.Pairwise (·<·)
theorem vO{n:Int}:∀{l:List Int},RX l->RX (qm l n)
 |[],_=>by simp[qm]
 |y::l,h=>by
  have b:=Uab.1 h;simp only[qm];split
  .split
   .refine Uab.2 ⟨λz a=>?_,h⟩
    grind
   omega
  .refine Uab.2 ⟨λz a=>?_,vO b.2⟩;rcases LC.1 a with a|rfl
   all_goals simp_all
theorem fF{n:Int}:∀{l:List Int},(qm l n).length<=a00 l+1
 |[]=>by simp[qm]
 |y::l=>by
  simp only[qm];split
  .grind
  .have:=fF (n:=n) (l:=l);simp_all
theorem Q3{n:Int}:∀{l:List Int},(∀x∈l,x<n)->qm l n=l++[n]
 |[],_=>rfl
 |y::l,h=>by
  have:=h y o0;simp only[qm];rw[p6,Q3 λx hx=>h x o4];rfl
theorem bW{n:Int}{r:List Int}:∀{l:List Int},(∃x∈l,n<=x)->qm (l++r) n=qm l n++r
 |[],h=>o4
 |y::l,h=>by
  simp only[qm,G?];split
  .grind
  .rename_i hny;rw[bW (l:=l),G?]
   simp_all
theorem rK{n x:Int}:∀{l:List Int},(∀y∈l,y<n)->n<=x->qm (l++[x]) n=l++(if n<x then [n,x]else [x])
 |[],_,h=>by simp_all[qm]
 |y::l,hl,h=>by
  have:=hl y o0;simp only[qm,G?];rw[p6,rK (λy hy=>hl y o4) h]
theorem Bz{α A β ρ:Type}{step:A×Int->Option (Ex (A×Int) β ρ)}(xs:List α) (f:A->α->A) (a0:A) (b:β) {x0:A×Int}(hx:x0=(a0,0))
 (hgo:∀(i:Nat) (hi:i<a00 xs),step ((xs.take i).foldl f a0,(i:Int))=M (.go (f ((xs.take i).foldl f a0) xs[i],((i+1:Nat):Int)))) (hend:step (xs.foldl f a0,(a00 xs:Int))=M (.brk b)) :
 ca step x0=M (.inl b):=by
 refine Nc (λi=>((xs.take i).foldl f a0,(i:Int))) xs.length b (λi hi=>?_) ?_ l5
 all_goals grind[N!]
end Go.Tm
namespace Go.Proofs.Dev
open Go Go.Tm
variable {l:List Int}{n:Int}
theorem an9(hl:l.length<=1099511627776):ca (rq l n) (([]:List Int),a39,0)=M (.inl (if(l.any λx=>s6 (n<=x))=a38 then qm l n else l,l.any λx=>s6 (n<=x))):=by
 refine Nc (λi=>(if((l.take i).any λx=>s6 (n<=x))=a38 then qm (l.take i) n else l.take i,(l.take i).any λx=>s6 (n<=x),(i:Int))) l.length _ (λi hi=>?_) ?_ o0
 .unfold rq;simp only;have ht:l.take (i+1)=l.take i++[l[i]]:=o0
  have c:(l.take i).length=i:=o4
  rw[J,ht,List.any_append,va hi];generalize l[i]=x;generalize l.take i=p at c⊢;cases hp:p.any λx=>s6 (n<=x)
  .have b:∀y∈p,y<n:=λy hy=>by
    simp_all
   simp only[D1,a!,t!,u4,Bool.false_or,List.any_cons,List.any_nil,Gae];by_cases hx:n<=x
   .rw[s7 hx];simp only[D1];by_cases a:n<x
    .rw[J a,Od o4,a!,a!,a!];simp only;rw[Od o4,a!,pa U,rK b hx,J a];simp
    .rw[p6 a,a!,a!];simp only;rw[Od o4,a!,pa U,rK b hx,p6 a]
   .rw[w2 hx];simp only[t!,u4,a!]
    grind[Od,pa]
  .have hex:∃y∈p,n<=y:=by
    simp_all
   have:=fF (n:=n) (l:=p);simp only[P!,u4,a!,D1,t!,Bool.true_or]
   grind[Od,pa,bW]
 grind[rq]
theorem iw(hl:l.length<=1099511627776):Jp l n=M (qm l n):=by
 unfold Jp;rw[an9 hl,a!];simp only;cases hp:l.any λx=>s6 (n<=x)
 .have hall:∀y∈l,y<n:=λy hy=>by
   simp_all
  simp only[D1,t!,u4]
  grind[Od,Q3]
 simp
theorem yw(hl:l.length<=1099511627776):Ag l n=M (qm l n):=by
 rw[←iw hl];rfl
end Go.Proofs.Dev
namespace Go.Tm
def QY{l:List Int}{x:Int}:Yd (l++[x])=qm (Yd l) x:=by simp[Yd,List.foldl_append]
theorem Of(l:List Int):RX (Yd l)/\(Yd l).length<=a00 l/\∀x,x∈Yd l↔x∈l:=by
 have key:∀(l a:List Int),RX a->RX (l.foldl qm a)/\(l.foldl qm a).length<=a00 a+a00 l/\∀x,x∈l.foldl qm a↔x∈a\/x∈l:=by
  intro l
  induction l with
  |nil=>simp
  |cons y l d=>
   intro a h;obtain⟨b,h2,c⟩:=d (qm a y) (vO h);have:=fF (n:=y) (l:=a);refine⟨b,o4,λx=>?_⟩
   simp_all[Γ,LC,Z',or_assoc]
 obtain⟨b,h2,c⟩:=key l [] o0
 grind[Yd]
theorem RM{lo hi:Int}:∀{a:List Int},RX a->(∀x∈a,lo<=x/\x<hi)->a.length<=(hi-lo).toNat
 |[],_,_=>o0
 |x::a,h,hb=>by
  have b:=Uab.1 h;have hx:=hb x o0;have:=RM (lo:=x+1) (hi:=hi) b.2 λy hy=>⟨o4,(hb y o4).2⟩
  grind
theorem QM:∀{a b:List Int},RX a->RX b->(∀x,x∈a↔x∈b)->a=b
 |[],[],_,_,_=>rfl
 |[],y::b,_,_,h=>by have:=(h y).2 o0;simp_all
 |x::a,[],_,_,h=>by have:=(h x).1 o0;simp_all
 |x::a,y::b,ha,hb,h=>by
  have c:=Uab.1 ha;have d:=Uab.1 hb;have e:x=y:=by
   have h1:=(h x).1 o0;have h2:=(h y).2 o0
   grind
  subst e;rw[QM c.2 d.2 λz=>?_]
  grind
end Go.Tm
namespace Go.Proofs.Dev
open Go Go.Tm
variable {p:fr->Bool}{l a:List Int}{x:fr}{e:List fr}{n d:Int}
def wD(p:fr->Bool) (e:List fr):List Int:=Yd ((e.filter p).map (·.N))
theorem ar6{l:List fr}:wD p (l++[x])=if p x=a38 then qm (wD p l) x.N else wD p l:=by
 unfold wD;rw[δ,List.map_append];by_cases h:p x=a38
 all_goals simp_all[if_pos,List.filter_cons_of_pos,List.filter_nil,QY,if_neg,List.filter_cons_of_neg]
theorem ct:(wD p e).length<=a00 e:=by
 grind[wD,Of,Ξ]
def dW(n:fr):Bool:=n.Op==7
def Rh(n:fr):Bool:=n.Op==8
def yy(n:fr):Bool:=n.Op==36 || n.Op==37 || n.Op==38 || n.Op==39
def Qo(e:List fr):List Int×List Int×List Int:=(wD dW e,wD Rh e,wD yy e)
theorem QM:∀{a b:List Int},RX a->RX b->(∀x,x∈a↔x∈b)->a=b
 |[],[],_,_,_=>rfl
 |[],y::b,_,_,h=>by have:=(h y).2 o0;simp_all
 |x::a,[],_,_,h=>by have:=(h x).1 o0;simp_all
 |x::a,y::b,ha,hb,h=>by
  obtain⟨ha1,c⟩:=Uab.1 ha;obtain⟨hb1,d⟩:=Uab.1 hb;have e:x=y:=by
   have h1:=(h x).1 o0;have h2:=(h y).2 o0
   grind
  subst e;rw[QM c d λz=>?_]
  grind
theorem PG{d:Array Int}(k:∀i j,i<j->j<d.size->d[i]!<=d[j]!):∀m,m<=d.size->RX (Go.Lib.compactUpTo d m)/\∀x,x∈Go.Lib.compactUpTo d m↔∃i,i<m/\d[i]! = x
 |0,_=>⟨by simp[Go.Lib.compactUpTo,RX],by simp[Go.Lib.compactUpTo]⟩
 |m+1,hm=>by
  obtain⟨b,e⟩:=PG k m U;have g:∀i,i<m->d[i]!<=d[m-1]!:=by
   intro i hi;by_cases h:i=m-1
   .simp_all
   .exact k i (m-1) U U
  rw[Go.Lib.compactUpTo_succ];by_cases hk:Go.Lib.keeps d m=a38
  .rw[J hk];refine⟨?_,λx=>?_⟩
   .unfold RX;rw[List.pairwise_append];refine⟨b,o0,λa ha c hc=>?_⟩;obtain⟨i,hi,rfl⟩:=(e a).1 ha;obtain rfl:=Tab.1 hc;have hne:d[m]!≠d[m-1]!:=by
     have:=D2 hk;omega
    have h1:=g i hi;have h2:=k (m-1) m U U;omega
   grind
  .rw[p6 hk,List.append_nil];refine⟨b,λx=>?_⟩;rw[e];have f:Go.Lib.keeps d m=a39:=l5
   have hmm:¬(m=0\/d[m]!≠d[m-1]!):=of_decide_eq_false f
   grind
theorem JB(l:List Int):Go.Lib.compact (l.mergeSort λx y=>s6 (x<=y))=Yd l:=by
 have hp:=List.pairwise_mergeSort (le:=λ(x y:Int)=>s6 (x<=y)) (λa b c e h2=>o4) (λa b=>o4) l;have hm:∀x,x∈(l.mergeSort λx y=>s6 (x<=y))↔x∈l:=λx=>List.mem_mergeSort;generalize (l.mergeSort λx y=>s6 (x<=y))=q at *;obtain⟨e,h2⟩:=PG (d:=q.toArray) (λi j hij hj=>by
  grind[List.pairwise_iff_getElem]) q.length o0
 obtain⟨g1,-,g2⟩:=Of l;refine QM e g1 λx=>?_;unfold Go.Lib.compact;rw[h2,g2,←hm x];constructor
 .grind
 .intro h;obtain⟨i,hi,rfl⟩:=List.mem_iff_getElem.1 h;exact⟨i,hi,l5⟩
theorem gz(h:l.length<=1099511627776):qn l=M (Yd l):=by
 unfold qn ab Ma;rw[J,a!,J a13,a!,JB]
theorem wC(h:l.length<=8796093022208):lk l=M (Yd l):=by
 simp_all[lk,ab,Ma,if_pos,a!,JB]
theorem UE{l:List fr}:((l++[x]).filter p).map (·.N)=if p x=a38 then(l.filter p).map (·.N)++[x.N]else(l.filter p).map (·.N):=by
 grind
theorem dr(h:e.length<=1099511627776):Og e=M (Qo e):=by
 unfold Og;have hb:∀(p:fr->Bool) (i:Nat),(((e.take i).filter p).map (·.N)).length<=a00 e:=λp i=>by
  grind
 have hl:ca (rk e) (([]:List Int),([]:List Int),([]:List Int),0)=M (.inl ((e.filter dW).map (·.N),(e.filter Rh).map (·.N),(e.filter yy).map (·.N))):=by
  refine Nc (λi=>(((e.take i).filter dW).map (·.N),((e.take i).filter Rh).map (·.N),((e.take i).filter yy).map (·.N),(i:Int))) e.length _ (λi hi=>?_) ?_ rfl
  .have ht:e.take (i+1)=e.take i++[e[i]]:=o0
   have b1:=hb dW i;have b2:=hb Rh i;have b3:=hb yy i;unfold rk;simp only;rw[J,va hi,a!,pa U,ht,UE,UE,UE]
   grind[dW,Rh,yy,Od]
  simp_all[rk,if_neg,ν]
 have c:∀p:fr->Bool,((e.filter p).map (·.N)).length<=1099511627776:=λp=>by
  grind
 rw[hl,a!];simp only;rw[gz (c dW),a!,gz (c Rh),a!,gz (c yy),a!];rfl
theorem Gp(h:e.length<=1099511627776):Yf e=M (Qo e):=by
 unfold Yf;have hl:ca (Ej e) (([]:List Int),([]:List Int),([]:List Int),0)=M (.inl (Qo e)):=by
  refine Nc (λi=>((Qo (e.take i)).1,(Qo (e.take i)).2.1,(Qo (e.take i)).2.2,(i:Int))) e.length _ (λi hi=>?_) ?_ rfl
  .have ht:e.take (i+1)=e.take i++[e[i]]:=o0
   have a:(e.take i).length<=1099511627776:=o4
   have b:=ct (p:=dW) (e:=e.take i);have c:=ct (p:=Rh) (e:=e.take i);have d:=ct (p:=yy) (e:=e.take i);unfold Ej Qo;simp only[ht,ar6];rw[J,va hi,pa U];generalize e[i]=x;simp only[a!,iw (N? b a),iw (N? c a),iw (N? d a),vF]
   grind[b?,decide,dW,qm,wD,Rh,yy]
  grind[Ej]
 simp_all
def YE(n:Int) (a:List Int) (x:Int):List Int:=if 0<=x/\x<n then qm a x else a
def YH(n:Int) (a:List Int):Prop:=RX a/\∀x∈a,0<=x/\x<n
theorem YH.len(h:YH n a):a.length<=n.toNat:=by
 have:=RM (lo:=0) (hi:=n) h.1 h.2;omega
theorem YH.nil:YH n []:=⟨o0,o0⟩
theorem YH.ins{x:Int}(h:YH n a):YH n (YE n a x):=by
 unfold YE;split
 .rename_i hx;refine⟨vO h.1,λy b=>?_⟩;rcases LC.1 b with b|rfl
  .exact h.2 y b
  omega
 omega
def YH.fold{n:Int}:∀{l a:List Int},YH n a->YH n (l.foldl (YE n) a)
 |[],a,h=>h
 |x::l,a,h=>YH.fold (l:=l) h.ins
theorem FO{n x:Int}:∀{l a:List Int},x∈l.foldl (YE n) a↔x∈a\/(x∈l/\0<=x/\x<n)
 |[],a=>o0
 |y::l,a=>by
  simp only[Γ];rw[FO (l:=l)];unfold YE;split
  .rename_i hy;rw[LC,Z']
   grind
  grind
theorem GD(s:ek) (d:Int):Py s d=M (s6 (0<=d)&&s6 (d<(a00 s.d:Int))):=by
 grind[Py]
def FF(r:kv):List Int:=wD Rh r.ak++wD Rh r.Value
def QN(n d:Int) (a:List Int) (r:kv):List Int:=if r.u=d then(FF r).foldl (YE n) a else a
def Ow(s:ek) (d:Int):List Int:=if 0<=d/\d<(a00 s.d:Int)then s.f.foldl (QN s.d.length d) []else []
structure J? (s:ek):Prop where
 defs:s.d.length<=1048576
 rules:s.f.length<=1048576
 g:∀r∈s.f,a00 r.ak<=1048576/\r.Value.length<=1048576
variable {s:ek}
theorem ar5{r:kv}(h:YH n a):YH n (QN n d a r):=by
 unfold QN;split
 .exact h.fold
 omega
theorem KE{n d:Int}:∀{l:List kv}{a:List Int},YH n a->YH n (l.foldl (QN n d) a)
 |[],a,h=>h
 |r::l,a,h=>KE (l:=l) (ar5 h)
theorem ME(s:ek) (d:Int):YH s.d.length (Ow s d):=by
 grind[Ow,KE,YH.nil]
theorem qL(f:J? s) (hl:l.length<=1099511627776) (ha:YH s.d.length a) {step:List Int×Int->Option (Ex (List Int×Int) (List Int) Unit)}
 (c:∀(a:List Int) (i:Nat) (hi:i<a00 l),step (a,(i:Int))=(b? (α:=List Int) (if(s6 (0<=l[i])&&s6 (l[i]<(a00 s.d:Int)))=a38 then(Ag a l[i]).bind λx=>M x else M a) λj=>M (.go (j,aa .i64 ((i:Int)+1)))))
 (d:∀a,step (a,(a00 l:Int))=M (.brk a)):ca step (a,0)=M (.inl (l.foldl (YE s.d.length) a)):=by
 refine Bz l (YE s.d.length) a _ rfl (λi hi=>?_) (d _);have e:=(YH.fold (l:=l.take i) ha).len;have:=f.defs;rw[c _ i hi,pa U];generalize (l.take i).foldl (YE s.d.length) a=b at e⊢;unfold YE;by_cases h:0<=l[i]/\l[i]<(a00 s.d:Int)
 .rw[J l5,J h,yw U];rfl
 grind
theorem uA(b:J? s) (d:Int):Np s d=M (Ow s d):=by
 unfold Np Ow;rw[GD,a!];by_cases hd:0<=d/\d<(a00 s.d:Int)
 .rw[p6 l5,J hd];have hl:ca (Io s d) (([]:List Int),0)=M (.inl (s.f.foldl (QN s.d.length d) [])):=by
   refine Bz s.f (QN s.d.length d) [] _ rfl (λi hi=>?_) ?_
   .have c:YH s.d.length ((s.f.take i).foldl (QN s.d.length d) []):=KE YH.nil;have:=b.rules;have j:=b.g _ (y! hi);unfold Io;simp only;rw[J,va hi,pa U];generalize (s.f.take i).foldl (QN s.d.length d) []=a at c⊢;generalize s.f[i]=r at j⊢;unfold QN;by_cases h:r.u=d
    .rw[J h,a!,p6,Gp U,a!,Gp U,a!];have l1:=ct (p:=Rh) (e:=r.ak);have l2:=ct (p:=Rh) (e:=r.Value);have f:ca (Mt s (Qo r.ak)) (a,0)=M (.inl ((wD Rh r.ak).foldl (YE s.d.length) a)):=by
      refine qL b (l:=wD Rh r.ak) U c (λa i hi=>?_) (λa=>?_)
      all_goals simp_all[Mt,Qo,if_pos,va,a!,GD]
     rw[f,a!];simp only;have b2:ca (Lt s (Qo r.Value)) ((wD Rh r.ak).foldl (YE s.d.length) a,0)=M (.inl ((wD Rh r.Value).foldl (YE s.d.length) ((wD Rh r.ak).foldl (YE s.d.length) a))):=by
      refine qL b (l:=wD Rh r.Value) U (YH.fold c) (λa i hi=>?_) (λa=>?_)
      all_goals simp_all[Lt,Qo,if_pos,va,a!,GD]
     grind[FF]
    simp_all
   grind[Io]
  simp_all
 grind
def XL(s:ek) (d x:Int):Prop:=(0<=d/\d<(a00 s.d:Int))/\(0<=x/\x<(a00 s.d:Int))/\∃r∈s.f,r.u=d/\x∈FF r
theorem mF{x:Int}:x∈Ow s d↔XL s d x:=by
 have key:∀(l:List kv) (a:List Int),x∈l.foldl (QN s.d.length d) a↔x∈a\/(0<=x/\x<(a00 s.d:Int))/\∃r∈l,r.u=d/\x∈FF r:=by
  intro l
  induction l with
  |nil=>simp
  |cons r l b=>
   intro a;simp only[Γ];rw[b];unfold QN;split
   .rename_i hr;rw[FO]
    grind
   simp_all
 unfold Ow XL
 simp_all
end Go.Proofs.Dev
namespace Go.Tm
theorem VG{α:Type} [DecidableEq α]:∀{a b:List α},a.Nodup->(∀x∈a,x∈b)->a.length<=a00 b
 |[],b,_,_=>o0
 |x::a,b,h,hs=>by
  obtain⟨h1,h2⟩:=Tac.1 h;have:=VG (a:=a) (b:=b.erase x) h2 λy hy=>by
   grind
  grind
theorem GR{a:List Int}(h:RX a):a.Nodup:=h.imp λh he=>U
end Go.Tm
namespace Go.Proofs.Dev
open Go Go.Tm
variable {a:List Int}{x:ek}{y d:Int}{k n i:Nat}{step:Int->Option (Ex Int Unit Bool)}{α:Type}{q:α->Bool}{v:Int×Int}{e:List fr}{o:Option Bool}
inductive Way (s:ek):Int->Int->Prop
 |one {a b:Int} (h:XL s a b):Way s a b
 |step {a b c:Int} (h:Way s a b) (h2:XL s b c):Way s a c
def trF(s:ek) (a:List Int) (x:Int):List Int:=(Ow s x).foldl qm a
def trR(s:ek) (a:List Int):List Int:=a.foldl (trF s) a
def mG(s:ek) (d:Int):Nat->List Int
 |0=>Ow s d
 |k+1=>trR s (mG s d k)
theorem sK{n:Int}:∀{l a:List Int},(∀x∈l,0<=x/\x<n)->l.foldl qm a=l.foldl (YE n) a
 |[],a,_=>rfl
 |x::l,a,h=>by
  simp only[Γ];rw[show YE n a x=qm a x from J (h x o0),sK λy hy=>h y o4]
theorem ab9(s:ek) (a:List Int) (x:Int):trF s a x=(Ow s x).foldl (YE s.d.length) a:=sK (ME s x).2
theorem ay8{s:ek}{x:Int}(h:YH s.d.length a):YH s.d.length (trF s a x):=by rw[ab9];exact h.fold
theorem ay7{s:ek}{x:Int}:y∈trF s a x↔y∈a\/XL s x y:=by
 rw[ab9,FO];constructor
 .grind[mF]
 .rintro(h|h)
  .simp_all
  .exact .inr ⟨mF.2 h,h.2.1⟩
def VH{s:ek}:∀{l a:List Int},YH s.d.length a->YH s.d.length (l.foldl (trF s) a)
 |[],a,h=>h
 |x::l,a,h=>VH (l:=l) (ay8 h)
theorem IA{s:ek}{y:Int}:∀{l a:List Int},y∈l.foldl (trF s) a↔y∈a\/∃x∈l,XL s x y
 |[],a=>o0
 |x::l,a=>by
  simp only[Γ];rw[IA (l:=l),ay7]
  grind
def DB(s:ek) (d:Int):∀k,YH s.d.length (mG s d k)
 |0=>ME s d
 |k+1=>VH (DB s d k)
theorem cL{s:ek}{d y:Int}:∀{k:Nat},y∈mG s d k->Way s d y
 |0,h=>.one (mF.1 h)
 |k+1,h=>by
  rcases IA.1 h with h|⟨x,a,h2⟩
  .exact cL h
  .exact .step (cL a) h2
def XP{s:ek}(h:y∈mG s d k):y∈mG s d (k+1):=IA.2 (.inl h)
theorem JX{s:ek}{d y:Int}(h:XL s d y):∀k,y∈mG s d k
 |0=>mF.2 h
 |k+1=>XP (JX h k)
def bt1(s:ek) (a:List Int):Prop:=∀x∈a,∀y,XL s x y->y∈a
open Classical in
theorem KX{s:ek}{d:Int}:∀k,bt1 s (mG s d k)\/k+1<=(mG s d k).length
 |0=>by
  cases h:mG s d 0 with
  |nil=>exact .inl λx hx=>by simp at hx
  |cons x l=>exact .inr o0
 |k+1=>by
  by_cases hc:bt1 s (mG s d k)
  .refine .inl λx hx y g=>?_;have c:x∈mG s d k:=by
    rcases IA.1 hx with h|⟨z,n,h2⟩
    .exact h
    .exact hc z n x h2
   exact XP (hc x c y g)
  .rcases KX k with h|h
   .exact(hc h).elim
   .right;obtain⟨x,hx⟩:=uae.1 hc;obtain⟨e,f⟩:=Oae.1 hx;obtain⟨y,g⟩:=uae.1 f;obtain⟨i,j⟩:=Oae.1 g;have:=VG (a:=y::mG s d k) (b:=mG s d (k+1)) (Tac.2 ⟨j,GR (DB s d k).1⟩) λz m=>by
     rcases Z'.1 m with rfl|m
     .exact IA.2 (.inr ⟨x,e,i⟩)
     .exact XP m
    simp only[List.length_cons]at this;omega
theorem ab8(s:ek) (d:Int):bt1 s (mG s d s.d.length):=by
 rcases KX (s:=s) (d:=d) s.d.length with h|h
 .exact h
 .have:=(DB s d s.d.length).len;omega
theorem qB{s:ek}:y∈mG s d s.d.length↔Way s d y:=by
 constructor
 .exact cL
 .intro h
  induction h with
  |one h=>grind[JX]
  |step h h2 a=>exact ab8 s d _ a _ h2
theorem Pp{s:ek}(f:J? s) (d:Int):Zf s d=M (mG s d s.d.length):=by
 unfold Zf;have hn:=f.defs;have round:∀a,YH s.d.length a->ca (Ji s a) (a,0)=M (.inl (trR s a)):=by
  intro a ha;have:=ha.len;refine Bz a (trF s) a _ rfl (λi hi=>?_) (by grind[Ji,trR]);have e:YH s.d.length ((a.take i).foldl (trF s) a):=VH ha;unfold Ji;simp only;rw[J,va hi,a!,uA f,a!,pa U];generalize (a.take i).foldl (trF s) a=b at e⊢;have hd:=(ME s a[i]).len;have hb:ca (Ii (Ow s a[i])) (b,0)=M (.inl ((Ow s a[i]).foldl qm b)):=by
   refine Bz (Ow s a[i]) qm b _ rfl (λk hk=>?_) (by grind[Ii]);have c:YH s.d.length (((Ow s a[i]).take k).foldl qm b):=by
    rw[sK λx hx=>(ME s a[i]).2 x (List.mem_of_mem_take hx)];exact e.fold
   have:=c.len;unfold Ii;simp only;rw[J,va hk,a!,yw U,a!,pa U]
  rw[hb,a!];rfl
 have hl:ca (Ki s) (Ow s d,0)=M (.inl (mG s d s.d.length)):=by
  refine Nc (λi=>(mG s d i,(i:Int))) s.d.length _ (λi hi=>?_) (by grind[Ki]) rfl;unfold Ki;simp only;rw[J,round _ (DB s d i),a!,pa U];rfl
 grind[uA]
def kM(n:Int) (l:List Int):List Int:=l.filter λx=>s6 (0<=x)&&s6 (x<n)
theorem pR{n:Int}{l:List Int}(h:a.length+a00 l<=1099511627776) {step:List Int×Int->Option (Ex (List Int×Int) (List Int) Unit)}
 (hstep:∀(a:List Int) (i:Nat) (hi:i<a00 l),step (a,(i:Int))=(b? (α:=List Int) (if(s6 (0<=l[i])&&s6 (l[i]<n))=a38 then(app 8 a [l[i]]).bind λx=>M x else M a) λj=>M (.go (j,aa .i64 ((i:Int)+1)))))
 (hend:∀a,step (a,(a00 l:Int))=M (.brk a)):ca step (a,0)=M (.inl (a++kM n l)):=by
 refine Nc (λi=>(a++kM n (l.take i),(i:Int))) l.length _ (λi hi=>?_) ?_ (by simp[kM])
 .have hlen:(kM n (l.take i)).length<=i:=by
   grind[kM]
  have ht:kM n (l.take (i+1))=kM n (l.take i)++(if(s6 (0<=l[i])&&s6 (l[i]<n))=a38 then [l[i]]else []):=by
   grind[kM,N!]
  grind[pa,Od]
 simp_all
theorem ry{r:kv}(h:r.ak.length<=1048576/\r.Value.length<=1048576) (n:Int):Df r n=M (kM n (wD Rh r.ak)++kM n (wD Rh r.Value)):=by
 unfold Df;have l1:=ct (p:=Rh) (e:=r.ak);have l2:=ct (p:=Rh) (e:=r.Value);have l3:(kM n (wD Rh r.ak)).length<=(wD Rh r.ak).length:=Ξ _ _;rw[dr U,a!,dr U,a!];have b:ca (gh n (Qo r.ak)) (([]:List Int),0)=M (.inl ([]++kM n (wD Rh r.ak))):=by
  refine pR (l:=wD Rh r.ak) o4 (λa i hi=>?_) (λa=>?_)
  .unfold gh Qo;simp only;rw[J,va hi,a!]
   grind
  grind[gh,Qo]
 rw[b,a!];simp only[List.nil_append];have b2:ca (fh n (Qo r.Value)) (kM n (wD Rh r.ak),0)=M (.inl (kM n (wD Rh r.ak)++kM n (wD Rh r.Value))):=by
  refine pR (l:=wD Rh r.Value) U (λa i hi=>?_) (λa=>?_)
  .unfold fh Qo;simp only;rw[J,va hi,a!]
   grind
  grind[fh,Qo]
 simp_all
theorem S!{α β:Type}{f:α->Option β}(g:α->β):∀{l:List α},(∀x∈l,f x=M (g x))->l.mapM f=M (l.map g)
 |[],_=>rfl
 |x::l,h=>by
  rw[List.mapM_cons,h x o0,S! g λy hy=>h y o4];rfl
def Ll(s:ek):List (List Int):=
 (p! s.d.length).map λ(d:Nat)=>Yd ((s.f.filter λ(r:kv)=>r.u==(d:Int)).map λr=>kM s.d.length (wD Rh r.ak)++kM s.d.length (wD Rh r.Value)).flatten
theorem bt{s:ek}(a:J? s):jd s=M (Ll s):=by
 unfold jd Ll;rw[J ⟨a.defs,a.rules,a.g⟩];refine S! _ λd _=>?_;rw[S! (λr=>kM s.d.length (wD Rh r.ak)++kM s.d.length (wD Rh r.Value)) λr hr=>ry (a.g r (tac.1 hr).1) _];rfl
theorem jF{s:ek}{l:List Int}(h0:0<=d) (h:(Ll s)[d.toNat]?=M l) (x:Int):x∈l↔XL s d x:=by
 unfold Ll at h;rw[List.getElem?_map]at h;by_cases hd:d.toNat<a00 s.d
 .rw[List.getElem?_range hd]at h;simp only[Option.map_some,T']at h;subst h;rw[(Of _).2.2];simp only[List.mem_flatten,V!,tac,aaA,XL,FF,kM]
  grind
 simp_all
theorem Rn(s:ek):(Ll s).length=a00 s.d:=by simp[Ll]
theorem J9{s:ek}{a b:Int}(f:0<=a):H? (Ll s) a b↔Way s a b:=by
 constructor
 .intro h;have key:∀{b:Int},H? (Ll s) a b->Way s a b/\0<=b:=by
   intro b h
   induction h with
   |one h hb=>exact have:=(jF f h _).1 hb;⟨.one this,this.2.1.1⟩
   |step h hl hc e=>exact have:=(jF e.2 hl _).1 hc;⟨.step e.1 this,this.2.1.1⟩
  simp_all
 .intro h;have get:∀{d x:Int},XL s d x->∃l,(Ll s)[d.toNat]?=M l/\x∈l:=by
   intro d x hd;have c:d.toNat<(Ll s).length:=by rw[Rn];have:=hd.1;omega
   exact⟨_,n! c,(jF hd.1.1 (n! c) x).2 hd⟩
  induction h with
  |one h=>obtain⟨l,g,h2⟩:=get h;exact .one g h2
  |step h h2 e=>obtain⟨l,i,j⟩:=get h2;exact .step e i j
theorem ZS{l:List Int}(hl:l.length<=1099511627776) (d:Int):cg l d=M (s6 (d∈l)):=by
 have h:=cx (l:=l) (p:=λx=>M (s6 (d=x))) (λx=>s6 (d=x)) (λx _=>rfl) U (o:=ca (dj l d) 0) (by
  unfold dj;simp)
 have h':cg l d=M (l.any λx=>s6 (d=x)):=h
 grind
open Classical in
theorem bm{s:ek}(c:J? s) (d:Int):∃l,bd s d=M l/\l.length<=1048576/\∀x,x∈l↔Way s d x:=by
 unfold bd;by_cases hd:0<=d/\d<(a00 s.d:Int)
 .have hn:=c.defs;refine⟨YO (Ll s) d,?_,?_,?_⟩
  .rw[J,a!,p6 a13,bt c,a!];unfold cm;rw[if_pos]
   .rfl
   .refine⟨by rw[Rn];omega,λl hl=>?_,hd.1,by rw[Rn];exact hd.2⟩;obtain⟨i,hi,rfl⟩:=H' hl;have hm:=λx=>jF (s:=s) (d:=(i:Int)) (l:=(Ll s)[i]) U (by rw[Int.toNat_natCast];exact n! hi) x;have hb:∀x∈(Ll s)[i],0<=x/\x<((Ll s).length:Int):=λx hx=>by rw[Rn];exact((hm x).1 hx).2.1
    refine⟨?_,hb⟩;have a:RX (Ll s)[i]:=by simp only[Ll,List.getElem_map];exact(Of _).1
    have:=RM a hb;rw[Rn]at this;omega
  .have e:=Ξ (λb=>@decide (H? (Ll s) d b) (Classical.propDecidable _)) ((p! (Ll s).length).map λ(k:Nat)=>(k:Int));unfold YO;simp only[List.length_map,List.length_range,Rn]at e⊢;omega
  .intro x;unfold YO;rw[tac,Rn,V!,w3,J9 hd.1];constructor
   .exact λh=>h.2
   .intro h;refine⟨?_,h⟩;have:0<=x/\x<(a00 s.d:Int):=by cases h with|one h=>exact h.2.1|step _ h=>exact h.2.1
    exact⟨x.toNat,by simp;omega,U⟩
 .refine⟨[],?_,o0,λx=>?_⟩
  .have:(if¬d<0 then M (s6 ((a00 s.d:Int)<=d))else M a38)=M a38:=by
    by_cases h:d<0
    .rw[p6]
    .rw[J h,s7 U]
   rw[this];rfl
  .constructor
   .intro h;simp at h
   .intro h;exfalso;apply hd;clear hd
    induction h with
    |one h=>exact h.1
    |step h h2 f=>exact f
structure m? (l:cb):Prop where
 ne:l.r.length<=1048576
 nt:l.Tables.length<=1048576
 ns:l.e.length<=1048576
 e:∀x∈l.r,x.q.size<=1048576/\∀m∈x.s,m.size<=1048576
 t:∀x∈l.Tables,x.q.size<=1048576
 s:∀x∈l.e,x.q.size<=1048576/\J? x/\x.w.length<=1048576/\(∀f∈x.w,f.q.size<=1048576)/\(∀f∈x.d,f.q.size<=1048576)/\
  (∀r∈x.f,r.q.size<=1048576/\r.a4.size<=1048576/\(∀n∈r.ak,cc n)/\∀n∈r.Value,cc n)
theorem SU{ρ:Type}{l:List α}(hk:k<=a00 l) {g:Nat->ρ}:(ff (λi=>if i<k/\(l[i]?.any q)=a38 then M (g i)else s5) l.length).isSome=(l.take k).any q:=by
 rw[←Wv (l:=l.take k) (q:=q) (g:=g)];have h:∀m,k<=m->ff (λi=>if i<k/\(l[i]?.any q)=a38 then M (g i)else s5) m=ff (λi=>if((l.take k)[i]?.any q)=a38 then M (g i)else s5) k:=by
  intro m hm
  cases h1:ff (λi=>if((l.take k)[i]?.any q)=a38 then M (g i)else s5) k with
  |none=>
   grind[db]
  |some v=>
   grind[Qa]
 simp_all
theorem Fu{l:List α}(hl:l.length<=1048576) (hk:k<=a00 l) 
 (a:∀(i:Nat) (hi:i<a00 l),step (i:Int)=if i<k/\q l[i]=a38 then M (.ret a38)else M (.go ((i+1:Nat):Int))) (b:step (a00 l:Int)=M (.brk ())) :
 ca step 0=M (if(l.take k).any q=a38 then .inr a38 else .inl ()):=by
 have c:=Gb (step:=step) (x0:=0) (λi=>(i:Int)) (λi=>if i<k/\(l[i]?.any q)=a38 then M a38 else s5) l.length () (λi hi _=>by
  rw[a i hi,n! hi,xac];by_cases h:i<k/\q l[i]=a38
  .rw[J h,J h];rfl
  .rw[p6 h,p6 h];rfl) (λ_=>b)
 rw[c,←SU (q:=q) (g:=λ_=>a38) hk]
 cases hf:ff (λi=>if i<k/\(l[i]?.any q)=a38 then M a38 else s5) l.length with
 |none=>rfl
 |some v=>
  obtain⟨i,-,h2,-⟩:=Qa.1 hf;split at h2
  .injection h2 with h2;subst h2;rfl
  simp_all
def FH(hn:n<=1048576) (a:∀i:Nat,i<n->step (i:Int)=M (.go ((i+1:Nat):Int))) (b:step (n:Int)=M (.brk ())):ca step 0=M (.inl ()):=
 Nc (λi=>(i:Int)) n () (λi hi=>a i hi) b
theorem bb4{l:cb}(h:m? l) (hi:i<=a00 l.r) (nm:ByteArray):ld l 1 (i:Int) nm=M ((l.r.take i).any λx=>s6 (x.q=nm)):=by
 have a:=h.ne;have c:=h.nt;have b:=h.ns;unfold ld;have h1:ca (Uc l 1 (i:Int) nm) 0=M (if(l.r.take i).any (λx=>s6 (x.q=nm))=a38 then .inr a38 else .inl ()):=Fu a hi (λk hk=>by
  unfold Uc;rw[J,va hk,pa U]
  grind) (by grind[Uc])
 have h2:ca (Cb l 1 (i:Int) nm) 0=M (.inl ()):=FH c (λk hk=>by
  unfold Cb;rw[J,pa U];simp) (by grind[Cb])
 have h3:ca (Ob l 1 (i:Int) nm) 0=M (.inl ()):=FH b (λk hk=>by
  unfold Ob;rw[J,pa U];simp) (by grind[Ob])
 grind
theorem QU{l:cb}(h:m? l) {t i:Int}(ht:1<t) (nm:ByteArray):ca (Uc l t i nm) 0=M (if l.r.any (λx=>s6 (x.q=nm))=a38 then .inr a38 else .inl ()):=by
 have a:=h.ne;have:=Fu (l:=l.r) (q:=λx=>s6 (x.q=nm)) (k:=a00 l.r) (step:=Uc l t i nm) a (x? _) (λk hk=>by
  unfold Uc;rw[J,va hk,pa U,p6]
  simp_all) (by grind[Uc])
 simp_all
theorem bb3{l:cb}(h:m? l) (hi:i<=a00 l.Tables) (nm:ByteArray):ld l 2 (i:Int) nm=M ((l.r.any λx=>s6 (x.q=nm)) || (l.Tables.take i).any λx=>s6 (x.q=nm)):=by
 have hne:=h.ne;have b:=h.nt;have a:=h.ns;unfold ld;have h2:ca (Cb l 2 (i:Int) nm) 0=M (if(l.Tables.take i).any (λx=>s6 (x.q=nm))=a38 then .inr a38 else .inl ()):=Fu b hi (λk hk=>by
  unfold Cb;rw[J,va hk,pa U]
  grind) (by grind[Cb])
 have h3:ca (Ob l 2 (i:Int) nm) 0=M (.inl ()):=FH a (λk hk=>by
  unfold Ob;rw[J,pa U];simp) (by grind[Ob])
 grind[QU]
theorem bb2{l:cb}(h:m? l) (hi:i<=a00 l.e) (nm:ByteArray):ld l 3 (i:Int) nm=M ((l.r.any λx=>s6 (x.q=nm)) || ((l.Tables.any λx=>s6 (x.q=nm)) || (l.e.take i).any λx=>s6 (x.q=nm))):=by
 have hne:=h.ne;have b:=h.nt;have a:=h.ns;unfold ld;have h2:ca (Cb l 3 (i:Int) nm) 0=M (if l.Tables.any (λx=>s6 (x.q=nm))=a38 then .inr a38 else .inl ()):=by
  have:=Fu (l:=l.Tables) (q:=λx=>s6 (x.q=nm)) (k:=a00 l.Tables) (step:=Cb l 3 (i:Int) nm) b (x? _) (λk hk=>by
   unfold Cb;rw[J,va hk,pa U]
   simp_all) (by grind[Cb])
  simp_all
 have c:ca (Ob l 3 (i:Int) nm) 0=M (if(l.e.take i).any (λx=>s6 (x.q=nm))=a38 then .inr a38 else .inl ()):=Fu a hi (λk hk=>by
  unfold Ob;rw[J,va hk,pa U]
  grind) (by grind[Ob])
 rw[QU h U,h2,c]
 grind
theorem qK{l:List nb}(hl:l.length<=1048576) (nm:ByteArray):Tr l nm=M (l.any λx=>s6 (x.q=nm)):=by
 have h:=cx (l:=l) (p:=λx=>zi x nm) (λx=>s6 (x.q=nm)) (λx _=>rfl) U (o:=ca (Ee l (λx=>zi x nm)) 0) rfl;have h':zb l (λx=>zi x nm)=M (l.any λx=>s6 (x.q=nm)):=h
 grind[Tr]
theorem uO{l:List po}(hl:l.length<=1048576) (nm:ByteArray):Bt l nm=M (l.any λx=>s6 (x.q=nm)):=by
 have h:=cx (l:=l) (p:=λx=>Rg x nm) (λx=>s6 (x.q=nm)) (λx _=>rfl) U (o:=ca (Td l (λx=>Rg x nm)) 0) rfl;have h':pb l (λx=>Rg x nm)=M (l.any λx=>s6 (x.q=nm)):=h
 grind[Bt]
theorem qZ{l:List ek}(hl:l.length<=1048576) (y:ek):ob l (λx=>Te x y)=M (l.any λx=>s6 (x.q=y.q)):=
 cx (l:=l) (p:=λx=>Te x y) (λx=>s6 (x.q=y.q)) (λx _=>rfl) U (o:=ca (Sd l (λx=>Te x y)) 0) rfl
theorem tO{l:List mu}(hl:l.length<=1048576) (y:mu):Ra l (λx=>Ld x y)=M (l.any λx=>s6 (x.q=y.q)):=
 cx (l:=l) (p:=λx=>Ld x y) (λx=>s6 (x.q=y.q)) (λx _=>rfl) U (o:=ca (Qd l (λx=>Ld x y)) 0) rfl
theorem M8{l:List kv}(hl:l.length<=1048576) (y:kv):Ab l (λx=>Uf x y)=M (l.any λx=>s6 (x.q=y.q)):=
 cx (l:=l) (p:=λx=>Uf x y) (λx=>s6 (x.q=y.q)) (λx _=>rfl) U (o:=ca (Fe l (λx=>Uf x y)) 0) rfl
theorem ao4{l:List ByteArray}(hl:l.length<=1048576) (y:ByteArray):Ze l y=M (l.any λx=>s6 (x=y)):=by
 have h:=cx (l:=l) (p:=λx=>M (s6 (y=x))) (λx=>s6 (x=y)) (λx _=>o4) U (o:=ca (af l y) 0) (by
  unfold af;simp)
 exact h
noncomputable def rM(x:nb) (k:Nat):Option (Int×Int):=
 match x.s[k]? with
 |some m=>if fo m=a39 then M (2,100+(k:Int))else if((x.s.take k).any λy=>s6 (y=m))=a38 then M (7,100+(k:Int))else s5
 |none=>s5
noncomputable def Qh(l:cb) (i:Nat) (x:nb):Int×Int:=
 if fo x.q=a39 then(2,0)else if((l.r.take i).any λy=>s6 (y.q=x.q))=a38 then(7,0)
 else if x.s.length=0 then(5,0)else if 16<a00 x.s then(4,116)else(ff (rM x) x.s.length).getD (0,0)
theorem aJ2{x:nb}(h:rM x k=M v):v.1≠0:=by
 grind[rM]
theorem lM{l:cb}(h:m? l) (hi:i<a00 l.r):iu l (i:Int) l.r[i]=M (Qh l i l.r[i]):=by
 obtain⟨g1,g2⟩:=h.e _ (y! hi);have hne:=h.ne;generalize l.r[i]=x at g1 g2⊢;unfold iu Qh;rw[tv U,a!];cases fo x.q
 .rfl
 simp only[t!,P!,u4];rw[CB U,a!,qK o4,a!];cases (l.r.take i).any λy=>s6 (y.q=x.q)
 .simp only[t!,P!,u4];by_cases b:x.s.length=0
  .simp_all
  rw[p6,p6 b];by_cases a:16<a00 x.s
  .grind
  rw[p6,p6 a];have hl:ca (jo x) 0=M (Rb () (ff (rM x) x.s.length)):=
   Gb (λk=>(k:Int)) _ _ _ (λk hk _=>by
    have hm:=g2 _ (y! hk);unfold jo rM;rw[J,va hk,a!,tv U,a!,n! hk,f? (n:=100+(k:Int)) U U,pa U,CB U,a!,ao4 o4,a!];simp only;cases fo x.s[k]
    .rfl
    .simp only[t!,P!,u4];cases (x.s.take k).any λy=>s6 (y=x.s[k])<;>rfl) (λ_=>by grind[jo])
  rw[hl];cases ff (rM x) x.s.length<;>rfl
 .rfl
theorem lJ{l:cb}(h:m? l) (hi:i<a00 l.r):yq l (i:Int)=M (if(Qh l i l.r[i]).1=0 then⟨0,0,0,0⟩else⟨(Qh l i l.r[i]).1,1,i,(Qh l i l.r[i]).2⟩):=by
 obtain⟨g1,g2⟩:=h.e _ (y! hi);have hne:=h.ne;unfold yq Qh;rw[va hi,a!];generalize l.r[i]=x at g1 g2⊢;rw[js U,a!,bb4 h U,a!];cases fo x.q
 .rfl
 simp only[t!,P!,u4];cases (l.r.take i).any λy=>s6 (y.q=x.q)
 .simp only[t!,P!,u4];by_cases m:x.s.length=0
  .simp_all
  rw[p6,p6 m];by_cases c:16<a00 x.s
  .grind
  rw[p6,p6 c];have hl:ca (Rk (i:Int) x) (0,0)=M (Rb () ((ff (rM x) x.s.length).map λv=>(⟨v.1,1,(i:Int),v.2⟩:ll))):=by
   have d:(ff (rM x) x.s.length).map (λv=>(⟨v.1,1,(i:Int),v.2⟩:ll))=ff (λk=>(rM x k).map λv=>(⟨v.1,1,(i:Int),v.2⟩:ll)) x.s.length:=by
    cases b:ff (rM x) x.s.length with
    |none=>grind[db]
    |some v=>grind[Qa]
   rw[d];refine Gb (λk=>((if k=0 then 0 else 100+((k-1:Nat):Int)),(k:Int))) _ _ _ (λk hk _=>?_) (λ_=>by grind[Rk]) (by rfl);have hm:=g2 _ (y! hk);unfold Rk rM;simp only;rw[J,va hk,a!,js U,a!,n! hk,f? (n:=100+(k:Int)) U U,pa U];have f:ca (Qk (i:Int) x (k:Int) x.s[k]) 0=M (Rb () (ff (λj=>if((x.s.take k)[j]?.any λy=>s6 (y=x.s[k]))=a38 then M (l? (⟨7,1,(i:Int),100+(k:Int)⟩:ll))else s5) (x.s.take k).length)):=
    Gb (λj=>(j:Int)) _ _ _ (λj hj _=>by
     have hjk:j<k:=o4
     unfold Qk;rw[J,va U,a!,n! hj,f? (n:=100+(k:Int)) U U,pa U];simp only[xac,mad,w3];by_cases he:x.s[j]=x.s[k]
     .rw[J he,J he];rfl
     .rw[p6 he,p6 he];rfl) (λ_=>by
      grind[Qk])
   dsimp only;cases fo x.s[k]
   .rfl
   simp only[t!,P!,u4];rw[f,a!,←Wv (l:=x.s.take k) (q:=λy=>s6 (y=x.s[k])) (g:=λ_=>(l? (⟨7,1,(i:Int),100+(k:Int)⟩:ll):Ex (Int×Int) Unit ll))]
   cases b:ff (λj=>if((x.s.take k)[j]?.any λy=>s6 (y=x.s[k]))=a38 then M (l? (⟨7,1,(i:Int),100+(k:Int)⟩:ll):Ex (Int×Int) Unit ll)else s5) (x.s.take k).length with
   |none=>simp[Rb,mE]
   |some v=>
    obtain⟨j,j1,a,-⟩:=Qa.1 b;split at a
    .injection a with a;subst a;rfl
    simp_all
  rw[hl]
  cases b:ff (rM x) x.s.length with
  |none=>rfl
  |some v=>
   grind[Rb,Qa,aJ2]
 .rfl
noncomputable def yr(l:cb) (i:Nat) (x:po):Int×Int:=
 if fo x.q=a39 then(2,0)
 else if((l.r.any λy=>s6 (y.q=x.q)) || (l.Tables.take i).any λy=>s6 (y.q=x.q))=a38 then(7,0)
 else if(dv x l.r).2=0 then(0,0)else((dv x l.r).2,if(dv x l.r).1 = -1 then 0 else 100+(dv x l.r).1)
theorem RP(t:po) (e:List nb):-1<=(dv t e).1/\(dv t e).1<=64:=by
 unfold dv;split
 .simp
 .split
  .simp
  .cases h:ff (UK t e) t.Rows.length with
   |none=>simp
   |some v=>
    grind[UK,Qa]
theorem U8{l:cb}(h:m? l):ca (zk l) 0=M (Rb () (ff (λi=>match l.Tables[i]? with|some x=>if(yr l i x).1=0 then s5 else M (⟨(yr l i x).1,2,(i:Int),(yr l i x).2⟩:ll)|none=>s5) l.Tables.length)):=by
 have hnt:=h.nt;have a:=h.ne;refine Gb (λk=>(k:Int)) _ _ _ (λi hi _=>?_) (λ_=>by grind[zk]);have hx:=h.t _ (y! hi);unfold zk yr;rw[J,va hi,a!,n! hi,pa U];simp only;generalize l.Tables[i]=x at hx⊢;have hr:=RP x l.r;rw[WK,a!,tv U,a!,qK a,a!,CB U,a!,uO o4,f? (n:=100+(dv x l.r).1) U U]
 grind[mE]
theorem MH{l:cb}(h:m? l) (hi:i<a00 l.Tables):Oo l (i:Int)=M (if(yr l i l.Tables[i]).1=0 then⟨0,0,0,0⟩else⟨(yr l i l.Tables[i]).1,2,i,(yr l i l.Tables[i]).2⟩):=by
 have hnt:=h.nt;have hne:=h.ne;have hx:=h.t _ (y! hi);unfold Oo yr;rw[va hi,a!];generalize l.Tables[i]=x at hx⊢;have hr:=RP x l.r;rw[js U,a!,bb3 h U,a!,IK,a!,f? (n:=100+(dv x l.r).1) U U]
 grind
noncomputable def eA(l:cb) (f:mu) (a b:List mu):Int:=
 if fo f.q=a39 then 2 else if((a.any λy=>s6 (y.q=f.q)) || b.any λy=>s6 (y.q=f.q))=a38 then 7 else if la f.ao l.r=a39 then 8 else 0
theorem FC{l:cb}{f:mu}{a b:List mu}(hf:f.q.size<=1048576) (ha:a.length<=1048576) (hb:b.length<=1048576):ko l f a b=M (eA l f a b):=by
 unfold ko eA;rw[tv U,a!,tO ha,a!,tO hb,Ua,a!]
 grind
theorem Mx{l:List mu}(hl:l.length<=1048576) (hk:k<=a00 l) (nm:ByteArray):Sk l (k:Int) nm=M ((l.take k).any λy=>s6 (y.q=nm)):=by
 unfold Sk;have b:ca (Mm l (k:Int) nm) 0=M (Rb () (ff (λi=>if((l.take k)[i]?.any λy=>s6 (y.q=nm))=a38 then M a38 else s5) (l.take k).length)):=
  Gb (λi=>(i:Int)) _ _ _ (λi hi _=>by
   have hik:i<k:=l5
   unfold Mm;rw[J,a!,s7 U,J rfl,va U,a!,n! hi,pa U];simp only[xac,mad,w3];by_cases he:l[i].q=nm
   .rw[J he,J he];rfl
   .rw[p6 he,p6 he];rfl) (λ_=>by
    simp_all[Mm])
 rw[b,←Wv (q:=λ(y:mu)=>s6 (y.q=nm)) (g:=λ_=>a38),a!]
 cases h2:ff (λi=>if((l.take k)[i]?.any λy=>s6 (y.q=nm))=a38 then M a38 else s5) (l.take k).length with
 |none=>rfl
 |some v=>
  obtain⟨j,j1,a,-⟩:=Qa.1 h2;split at a
  .injection a with a;subst a;rfl
  simp_all
theorem iM{l:List mu}(hl:l.length<=1048576) {step:List ej×Int->Option (Ex (List ej×Int) (List ej) Unit)}
 (hstep:∀(a:List ej) (i:Nat) (hi:i<a00 l),step (a,(i:Int))=((app 16 a [l[i].ao]).bind λx=>M (.go (x,aa .i64 ((i:Int)+1)))))
 (hend:∀a,step (a,(a00 l:Int))=M (.brk a)):ca step (([]:List ej),0)=M (.inl (l.map (·.ao))):=by
 refine Nc (λi=>((l.take i).map (·.ao),(i:Int))) l.length _ (λi hi=>?_) l5 o0
 grind[Od,pa,N!]
theorem Ax{l:List mu}(hl:l.length<=1048576):Ak l=M (l.map (·.ao)):=by
 unfold Ak;rw[iM hl (step:=ym l) (λa i hi=>by simp_all[ym,va]) (λa=>by grind[ym])];rfl
def xJ(l:cb) (s:ek):pr:=
 if h:0<=s.ac/\s.ac<(a00 l.e:Int)then⟨l.r,l.Tables,s.w.map (·.ao),s.d.map (·.ao),(l.e[s.ac.toNat]' U).d.map (·.ao),a38⟩
 else⟨l.r,l.Tables,s.w.map (·.ao),s.d.map (·.ao),[],a39⟩
theorem Sw{l:cb}(h:m? l) (hi:i<a00 l.e):Kg l (i:Int)=M (xJ l l.e[i]):=by
 obtain⟨g1,g2,g3,-⟩:=h.s _ (y! hi);have gd:=g2.defs;unfold Kg xJ;rw[va hi,a!];generalize l.e[i]=x at gd g3⊢;rw[Ax g3,a!,Ax gd,a!];by_cases hm:0<=x.ac/\x.ac<(a00 l.e:Int)
 .have hd:=(h.s _ (y! (l:=l.e) (n:=x.ac.toNat) U)).2.1.defs
  simp_all[nh,Ax]
 grind
theorem kJ{l:cb}(h:m? l) (hi:i<a00 l.e):xq l (i:Int)=M (xJ l l.e[i]):=by
 rw[←Sw h hi];unfold xq Kg;rw[J,a!,p6 l5];rfl
def zJ(s:ByteArray) (i:Nat):Bool:=if h:i<s.size then s6 (32<=(s[i].toNat:Int))&&s6 ((s[i].toNat:Int)<=126)&&!((s[i].toNat:Int)==34)else a38
def T0(s:ByteArray):Bool:=s6 (s.size<=64)&&(ff (λi=>if zJ s i=a38 then s5 else M a39) s.size).isNone
theorem mJ{s:ByteArray}(hs:s.size<=1048576):Aq s=M (T0 s):=by
 unfold Aq T0;have a:ca (Tk s) 0=M (Rb () (ff (λi=>if zJ s i=a38 then s5 else M a39) s.size)):=
  Gb (λi=>(i:Int)) _ _ _ (λi hi _=>by
   unfold Tk zJ;rw[J,xS hi,a!,pa U,dif_pos hi]
   grind[mE]) (λ_=>by grind[Tk])
 rw[a]
 cases h2:ff (λi=>if zJ s i=a38 then s5 else M a39) s.size with
 |none=>
  grind[decide,Rb]
 |some v=>
  grind[Rb,Qa]
theorem c9{s:ByteArray}{c:UInt8}:s.data.toList.contains c=a38↔∃i,∃h:i<s.size,s[i]=c:=by
 rw[List.contains_iff_mem];constructor
 .intro h;obtain⟨i,hi,he⟩:=H' h;exact⟨i,by simpa using hi,by rw[←he];rfl⟩
 .rintro⟨i,hi,rfl⟩;exact y! (l:=s.data.toList) (n:=i) l5
theorem PI{s:ByteArray}(hs:s.size<=1048576):iq s=M (T0 s):=by
 unfold iq T0 w!;rw[J (show(n? #[34]).size=1 from rfl)];by_cases h64:64<s.size
 .grind
 rw[J,s7 (p:=s.size<=64) U];have d:ca (Dk s) 0=M (Rb () (ff (λi=>if(if h:i<s.size then s6 (32<=(s[i].toNat:Int))&&s6 ((s[i].toNat:Int)<=126)else a38)=a38 then s5 else M a39) s.size)):=
  Gb (λi=>(i:Int)) _ _ _ (λi hi _=>by
   unfold Dk;rw[J,xS hi,a!,pa U,dif_pos hi]
   grind[mE]) (λ_=>by grind[Dk])
 rw[d];simp only[a!,Ο];have hc:=c9 (s:=s) (c:=34);change (s.data.toList.contains ((n? #[34]).data.toList.headD 0))=a38↔_ at hc;have h34:∀i (h:i<s.size),s[i]=34↔(s[i].toNat:Int)=34:=λi h=>by
  constructor
  .simp_all
  .intro he;apply UInt8.toNat_inj.1
   grind
 cases hq:s.data.toList.contains ((n? #[34]).data.toList.headD 0)
 .rw[hq]at hc;have hno:∀i (h:i<s.size),(s[i].toNat:Int)≠34:=λi h he=>by
   simp_all
  rw[p6 o0];have b:ff (λi=>if(if h:i<s.size then s6 (32<=(s[i].toNat:Int))&&s6 ((s[i].toNat:Int)<=126)else a38)=a38 then s5 else M a39) s.size=ff (λi=>if zJ s i=a38 then s5 else M a39) s.size:=by
   simp_all[zJ]
  rw[b]
  cases h2:ff (λi=>if zJ s i=a38 then s5 else M a39) s.size with
  |none=>rfl
  |some v=>
   obtain⟨j,j1,a,-⟩:=Qa.1 h2;split at a
   .grind
   .injection a with a;subst a;rfl
 .obtain⟨i,hi,he⟩:=hc.1 hq;rw[J rfl]
  cases h2:ff (λi=>if zJ s i=a38 then s5 else M a39) s.size with
  |some v=>rfl
  |none=>
   simp_all[zJ,db]
noncomputable def HJ(e:List fr) (s:pr) (t:ej):Int:=
 if¬(EB e s).2.2=0 then(EB e s).2.2 else if¬((EB e s).1.a=t.a/\(EB e s).1.g=t.g)then 8 else 0
theorem SD(hN:∀n∈e,cc n) (s:pr) (t:ej):Mq e s t=M (HJ e s t):=by
 grind[Mq,HJ,DQ]
theorem zB(hN:∀n∈e,cc n) (s:pr) (t:ej):Sl e s t=M (HJ e s t):=by
 grind[Sl,HJ,eP]
def VK(x:ek) (k:Nat) (r:kv):Nat:=((x.f.take k).filter λy=>s6 (y.u=r.u)).length
theorem T5(x:ek) (k:Nat) (r:kv):VK x k r<=k:=by
 grind[VK]
theorem wS{r:kv}(hk:k<a00 x.f):VK x (k+1) r=if x.f[k].u=r.u then VK x k r+1 else VK x k r:=by
 unfold VK;rw[N!,n! hk,δ,List.length_append]
 grind
def SO(x:ek) (k:Nat) (r:kv):Bool:=
 if r.am = -1 then a39 else if r.am<0 then a38 else if(k:Int)<=r.am then a38 else match x.f[r.am.toNat]? with|some q=>q.u !=r.u|none=>a38
noncomputable def EF(x:ek) (s:pr) (k:Nat) (r:kv):Int:=
 if fo r.q=a39 then 2
 else if((x.f.take k).any λy=>s6 (y.q=r.q))=a38 then 7
 else if r.u<0\/(a00 x.d:Int)<=r.u then 6
 else if SO x k r=a38 then 9
 else if r.ay<0\/9<r.ay\/r.ab.n<0\/r.ab.To<=r.ab.n\/109573<r.ab.To then 3
 else if 8<=VK x k r then 4
 else if T0 r.a4=a39 then 2
 else if 0<a00 r.ak/\HJ r.ak s ⟨1,0⟩≠0 then HJ r.ak s ⟨1,0⟩
 else HJ r.Value s (match x.d[r.u.toNat]? with|some d=>d.ao|none=>⟨0,0⟩)
structure Χ (r:kv):Prop where
 nm:r.q.size<=1048576
 src:r.a4.size<=1048576
 g:∀n∈r.ak,cc n
 v:∀n∈r.Value,cc n
variable {r:kv}
theorem aU9(hk:k<a00 x.f) (ho:o=(if¬r.am = -1 then if¬r.am<0 then if¬(k:Int)<=r.am then(c! x.f r.am).bind λy=>M (y.u !=r.u)else M a38 else M a38 else M a39)):o=M (SO x k r):=by
 rw[ho];unfold SO;by_cases a:r.am = -1
 .grind
 by_cases h2:r.am<0
 .simp_all
 by_cases b:(k:Int)<=r.am
 .simp_all
 .rw[J a,J h2,J b,p6 a,p6 h2,p6 b,nh U U,a!,n!]
theorem mM(hx:J? x) (hk:k<a00 x.f) (hr:Χ x.f[k]) (s:pr):ju x (k:Int) s=M (EF x s k x.f[k]):=by
 have hrl:=hx.rules;have hdl:=hx.defs;unfold ju EF;rw[va hk,a!,CB U,a!];generalize hrr:x.f[k]=r at hr⊢;have hl:ca (mo r (x.f.take k)) (0,0)=M (.inl ((VK x k r:Nat):Int)):=by
  refine Nc (λi=>(((VK x i r:Nat):Int),(i:Int))) k _ (λi hi=>?_) ?_ rfl
  .have:=T5 x i r;unfold mo;simp only;rw[J o4,va o4,a!,pa U,pa U,mad,wS U]
   grind
  grind[mo]
 rw[hl,a!];simp only;rw[tv (by have:=hr.nm;omega),a!,a!,M8 o4,a!];cases fo r.q
 .rfl
 simp only[P!,u4];cases (x.f.take k).any λy=>s6 (y.q=r.q)
 .simp only[t!,u4];by_cases hd:r.u<0\/(a00 x.d:Int)<=r.u
  .grind
  .rw[p6 hd,J,a!,p6 l5];rw[aU9 hk rfl,a!];cases SO x k r
   .simp only[t!,u4];by_cases hp:r.ay<0\/9<r.ay
    .grind
    .rw[J (show¬r.ay<0 by omega),a!,p6 l5];by_cases hv:r.ab.n<0\/r.ab.To<=r.ab.n\/109573<r.ab.To
     .grind
     .rw[J (show¬r.ab.n<0 by omega),J (show¬r.ab.To<=r.ab.n by omega),a!,p6 l5,p6 (show¬(r.ay<0\/9<r.ay\/r.ab.n<0\/r.ab.To<=r.ab.n\/109573<r.ab.To) by omega)];by_cases b:8<=VK x k r
      .grind
      rw[p6,p6 b,PI hr.src,a!];cases T0 r.a4
      .rfl
      simp only[P!,u4];have hi:c! x.d r.u=M (x.d[r.u.toNat]' U):=nh U U;have a:x.d[r.u.toNat]?=M (x.d[r.u.toNat]' U):=n! _;simp only[hi,a,SD hr.g,SD hr.v,a!]
      grind
   .rfl
 .rfl
theorem Q9{v:ia}:χ v=a39\/v.n=v.To↔v.n<0\/v.To<=v.n\/109573<v.To:=by
 grind[χ]
theorem ag8{l:cb}(h:m? l) (hi:i<a00 l.e) (hr:r∈l.e[i].f):Χ r:=by
 obtain⟨-,-,-,-,-,g⟩:=h.s _ (y! hi);obtain⟨a,b,c,d⟩:=g r hr;exact⟨a,b,c,d⟩
theorem nJ{l:cb}(h:m? l) (hi:i<a00 l.e) (hk:k<l.e[i].f.length):Bq l (i:Int) (k:Int)=M (EF l.e[i] (xJ l l.e[i]) k l.e[i].f[k]):=by
 have hr:=ag8 h hi (y! hk);have hx:=(h.s _ (y! hi)).2.1;have hS:=kJ h hi;unfold Bq;rw[va hi,a!];generalize l.e[i]=x at hk hr hx hS⊢;have hrl:=hx.rules;have hdl:=hx.defs;rw[va hk,a!];unfold EF;generalize hrr:x.f[k]=r at hr⊢;rw[js (by have:=hr.nm;omega),a!];cases fo r.q
 .rfl
 simp only[P!,u4];have hl:ca (Uk (k:Int) x r) (0,0)=M (Rb ((VK x k r:Nat):Int) (ff (λi=>if((x.f.take k)[i]?.any λy=>s6 (y.q=r.q))=a38 then M 7 else s5) (x.f.take k).length)):=by
  refine Gb (λi=>(((VK x i r:Nat):Int),(i:Int))) _ _ _ (λj hj _=>?_) (λ_=>?_) rfl
  .have hjk:j<k:=o4
   have:=T5 x j r;unfold Uk;simp only;rw[J,va U,a!,pa U,pa U,n! hj,wS U];simp only[xac,mad,w3];by_cases hn:x.f[j].q=r.q
   .rw[J hn,J hn];rfl
   .rw[p6 hn,p6 hn];by_cases hd:x.f[j].u=r.u
    .rw[J hd,J hd];rfl
    .rw[p6 hd,p6 hd];rfl
  grind[Uk]
 rw[hl,a!,←Wv (q:=λ(y:kv)=>s6 (y.q=r.q)) (g:=λ_=>(7:Int))]
 cases h2:ff (λi=>if((x.f.take k)[i]?.any λy=>s6 (y.q=r.q))=a38 then M (7:Int)else s5) (x.f.take k).length with
 |some v=>
  obtain⟨j,j1,a,-⟩:=Qa.1 h2;split at a
  .injection a with a;subst a;rfl
  simp_all
 |none=>
  simp only[Rb,Option.isSome_none,t!,u4];by_cases hd:r.u<0\/(a00 x.d:Int)<=r.u
  .grind
  .rw[p6 hd,J,a!,p6 l5];rw[aU9 hk rfl,a!];cases SO x k r
   .simp only[t!,u4,cy,a!];have hb:=Q9 (v:=r.ab);by_cases hp:r.ay<0\/9<r.ay
    .grind
    .rw[J (show¬r.ay<0 by omega),J (show¬9<r.ay by omega)];by_cases hv:r.ab.n<0\/r.ab.To<=r.ab.n\/109573<r.ab.To
     .grind
     .have d:χ r.ab=a38:=by
       simp_all
      have h2:¬r.ab.n=r.ab.To:=λhq=>hv (hb.1 (.inr hq));rw[J d,a!,p6 l5,p6 (show¬(r.ay<0\/9<r.ay\/r.ab.n<0\/r.ab.To<=r.ab.n\/109573<r.ab.To) by omega)];by_cases e:8<=VK x k r
      .grind
      rw[p6,p6 e,mJ hr.src,a!];cases T0 r.a4
      .rfl
      simp only[P!,u4];have c:c! x.d r.u=M (x.d[r.u.toNat]' U):=nh U U;have b:x.d[r.u.toNat]?=M (x.d[r.u.toNat]' U):=n! _;simp only[hS,c,b,zB hr.g,zB hr.v,a!]
      grind
   .rfl
noncomputable def inF(l:cb) (x:ek) (k:Nat):Option (Int×Int):=
 match x.w[k]? with
 |some f=>if eA l f (x.w.take k) []=0 then s5 else M (eA l f (x.w.take k) [],100+(k:Int))
 |none=>s5
noncomputable def fM(l:cb) (x:ek) (k:Nat):Option (Int×Int):=
 match x.d[k]? with
 |some f=>if eA l f x.w (x.d.take k)=0 then s5 else M (eA l f x.w (x.d.take k),200+(k:Int))
 |none=>s5
noncomputable def AP(l:cb) (x:ek) (k:Nat):Option (Int×Int):=
 match x.f[k]? with
 |some r=>if EF x (xJ l x) k r=0 then s5 else M (EF x (xJ l x) k r,300+(k:Int))
 |none=>s5
open Classical in
noncomputable def eM(x:ek) (k:Nat):Option (Int×Int):=if Way x (k:Int) (k:Int)then M (9,200+(k:Int))else s5
def TB(l:cb) (i:Nat) (x:ek):Bool:=
 if x.ac = -1 then a39 else if x.ac<0 then a38 else if(i:Int)<=x.ac then a38 else match l.e[x.ac.toNat]? with|some q=>q.ac !=-1|none=>a38
noncomputable def kl(l:cb) (i:Nat) (x:ek):Int×Int:=
 if fo x.q=a39 then(2,0)
 else if((l.r.any λy=>s6 (y.q=x.q)) || ((l.Tables.any λy=>s6 (y.q=x.q)) || (l.e.take i).any λy=>s6 (y.q=x.q)))=a38 then(7,0)
 else if TB l i x=a38 then(6,0)
 else if 12<a00 x.w then(4,112)
 else if 12<a00 x.d then(4,212)
 else match ff (inF l x) x.w.length with
  |some v=>v
  |none=>match ff (fM l x) x.d.length with
   |some v=>v
   |none=>match ff (AP l x) x.f.length with
    |some v=>v
    |none=>(ff (eM x) x.d.length).getD (0,0)
theorem al9{l:cb}(hi:i<a00 l.e) (ho:o=(if¬x.ac = -1 then if¬x.ac<0 then if¬(i:Int)<=x.ac then(c! l.e x.ac).bind λy=>M (y.ac !=-1)else M a38 else M a38 else M a39)):o=M (TB l i x):=by
 rw[ho];unfold TB;by_cases a:x.ac = -1
 .grind
 by_cases h2:x.ac<0
 .simp_all
 by_cases b:(i:Int)<=x.ac
 .simp_all
 .rw[J a,J h2,J b,p6 a,p6 h2,p6 b,nh U U,a!,n!]
theorem Z8{l:cb}(hi:i<a00 l.e) (ho:o=(if¬x.ac = -1 then if¬x.ac<0 then if¬(i:Int)<=x.ac then(c! (l.e.take i) x.ac).bind λy=>M (y.ac !=-1)else M a38 else M a38 else M a39)):o=M (TB l i x):=by
 rw[ho];unfold TB;by_cases a:x.ac = -1
 .grind
 by_cases h2:x.ac<0
 .simp_all
 by_cases b:(i:Int)<=x.ac
 .simp_all
 .rw[J a,J h2,J b,p6 a,p6 h2,p6 b,nh U o4,a!,n! U,mad]
theorem uK{l:cb}(h:m? l) (hi:i<a00 l.e):Sr l (i:Int)=M (kl l i l.e[i]):=by
 obtain⟨g1,g2,g3,g4,g5,f⟩:=h.s _ (y! hi);have c:=h.ne;have d:=h.nt;have hns:=h.ns;have hS:=Sw h hi;have b:∀r∈l.e[i].f,Χ r:=λr hr=>ag8 h hi hr;unfold Sr kl;rw[va hi,a!,CB U,a!];generalize l.e[i]=x at g1 g2 g3 g4 g5 f hS b⊢;have gd:=g2.defs;have gr:=g2.rules;rw[qK c,a!,uO d,qZ o4,tv U];have e:(if(l.r.any λy=>s6 (y.q=x.q))=a39 then(M (l.Tables.any λy=>s6 (y.q=x.q))).bind λu=>if u=a39 then(M ((l.e.take i).any λy=>s6 (y.q=x.q))).bind λw=>M w else M a38 else M a38) =
  M ((l.r.any λy=>s6 (y.q=x.q)) || ((l.Tables.any λy=>s6 (y.q=x.q)) || (l.e.take i).any λy=>s6 (y.q=x.q))):=by
  grind
 rw[e,a!,a!];cases fo x.q
 .rfl
 simp only[P!,u4];cases (l.r.any λy=>s6 (y.q=x.q)) || ((l.Tables.any λy=>s6 (y.q=x.q)) || (l.e.take i).any λy=>s6 (y.q=x.q))
 .simp only[t!,u4];rw[Z8 (l:=l) (x:=x) hi rfl,a!];cases TB l i x
  .simp only[t!,u4];by_cases j:12<a00 x.w
   .grind
   rw[p6,p6 j];by_cases g:12<a00 x.d
   .grind
   rw[p6,p6 g];have m:ca (xm l x) 0=M (Rb () (ff (inF l x) x.w.length)):=
    Gb (λk=>(k:Int)) _ _ _ (λk hk _=>by
     unfold xm inF;rw[J,va hk,a!,CB U,a!,FC (g4 _ (y! hk)) o4 o0,a!,n! hk,f? (n:=100+(k:Int)) U U,pa U];dsimp only;by_cases a:eA l x.w[k] (x.w.take k) []=0
     .rw[p6,J a];rfl
     .rw[J a,p6 a];rfl) (λ_=>by grind[xm])
   have o:ca (vm l x) 0=M (Rb () (ff (fM l x) x.d.length)):=
    Gb (λk=>(k:Int)) _ _ _ (λk hk _=>by
     unfold vm fM;rw[J,va hk,a!,CB U,a!,FC (g5 _ (y! hk)) g3 o4,a!,n! hk,f? (n:=200+(k:Int)) U U,pa U];dsimp only;by_cases a:eA l x.d[k] x.w (x.d.take k)=0
     .rw[p6,J a];rfl
     .rw[J a,p6 a];rfl) (λ_=>by grind[vm])
   have p:ca (um x (xJ l x)) 0=M (Rb () (ff (AP l x) x.f.length)):=
    Gb (λk=>(k:Int)) _ _ _ (λk hk _=>by
     unfold um AP;rw[J,mM g2 hk (b _ (y! hk)),a!,n! hk,f? (n:=300+(k:Int)) U U,pa U];dsimp only;by_cases a:EF x (xJ l x) k x.f[k]=0
     .rw[p6,J a];rfl
     .rw[J a,p6 a];rfl) (λ_=>by grind[um])
   have t:ca (tm x) 0=M (Rb () (ff (eM x) x.d.length)):=
    Gb (λk=>(k:Int)) _ _ _ (λk hk _=>by
     obtain⟨q,q1,q2,q3⟩:=bm g2 (k:Int);unfold tm eM;rw[J,q1,a!,ZS U,a!,f? (n:=200+(k:Int)) U U,pa U];by_cases a:Way x (k:Int) (k:Int)
     .rw[J l5,J a];rfl
     .rw[p6 l5,p6 a];rfl) (λ_=>by grind[tm])
   rw[m,a!]
   cases ff (inF l x) x.w.length with
   |some v=>rfl
   |none=>
    simp only[Rb];rw[o,a!]
    cases ff (fM l x) x.d.length with
    |some v=>rfl
    |none=>
     simp only[Rb];rw[hS,a!,p,a!]
     cases ff (AP l x) x.f.length with
     |some v=>rfl
     |none=>
      simp only[Rb];rw[t,a!];cases ff (eM x) x.d.length<;>rfl
  .rfl
 .rfl
theorem lK{β:Type}{f:Nat->Option α}(g:α->β) :ff (λk=>(f k).map g) n=(ff f n).map g:=by
 cases h1:ff f n with
 |none=>grind[db]
 |some v=>grind[Qa]
def BU(i:Nat) (v:Int×Int):ll:=⟨v.1,3,(i:Int),v.2⟩
theorem sZ{l:cb}(h:inF l x k=M v):v.1≠0:=by
 grind[inF]
theorem dT{l:cb}(h:fM l x k=M v):v.1≠0:=by
 grind[fM]
theorem gU{l:cb}(h:AP l x k=M v):v.1≠0:=by
 grind[AP]
theorem aP1(h:eM x k=M v):v.1≠0:=by
 grind[eM]
theorem QG{f:Nat->Option (Int×Int)}(hf:∀{k v},f k=M v->v.1≠0) (h:ff f n=M v):v.1≠0:=by
 grind[Qa]
theorem KH{l:cb}(h:m? l) (hi:i<a00 l.e):Ko l (i:Int)=M (match ff (inF l l.e[i]) l.e[i].w.length with
 |some v=>BU i v
 |none=>match ff (fM l l.e[i]) l.e[i].d.length with
  |some v=>BU i v
  |none=>⟨0,0,0,0⟩):=by
 obtain⟨g1,g2,g3,g4,g5,a⟩:=h.s _ (y! hi);unfold Ko;rw[va hi,a!];generalize l.e[i]=x at g1 g2 g3 g4 g5 a⊢;have gd:=g2.defs;have l1:ca (Gj l (i:Int) x) 0=M (Rb () ((ff (inF l x) x.w.length).map (BU i))):=by
  rw[←lK];exact Gb (λk=>(k:Int)) _ _ _ (λk hk _=>by
   have hf:=g4 _ (y! hk);unfold Gj inF eA;rw[J,va hk,a!,js U,a!,Mx g3 U,a!,xb,a!,n! hk,f? (n:=100+(k:Int)) U U,pa U];dsimp only;generalize x.w[k]=f;cases fo f.q
   .rfl
   cases (x.w.take k).any λy=>s6 (y.q=f.q)
   .cases la f.ao l.r<;>rfl
   .rfl) (λ_=>by grind[Gj])
 have l2:ca (Fj l (i:Int) x) 0=M (Rb () ((ff (fM l x) x.d.length).map (BU i))):=by
  rw[←lK];exact Gb (λk=>(k:Int)) _ _ _ (λk hk _=>by
   have hf:=g5 _ (y! hk);unfold Fj fM eA;rw[J,va hk,a!,js U,a!,Mx g3 (x? _),a!,Mx gd U,xb,a!,n! hk,f? (n:=200+(k:Int)) U U,pa U,ν];dsimp only;generalize x.d[k]=f;cases fo f.q
   .rfl
   cases x.w.any λy=>s6 (y.q=f.q)
   .cases (x.d.take k).any λy=>s6 (y.q=f.q)
    .cases la f.ao l.r<;>rfl
    .rfl
   .rfl) (λ_=>by grind[Fj])
 grind[Rb]
theorem LH{l:cb}(h:m? l) (hi:i<a00 l.e):No l (i:Int)=M (if(kl l i l.e[i]).1=0 then⟨0,0,0,0⟩else BU i (kl l i l.e[i])):=by
 obtain⟨g1,g2,g3,g4,g5,z⟩:=h.s _ (y! hi);have hne:=h.ne;have hnt:=h.nt;have hns:=h.ns;have t:=KH h hi;have w:=λ{k:Nat} (hk:k<l.e[i].f.length)=>nJ h hi hk;unfold No kl;rw[va hi,a!];generalize l.e[i]=x at g1 g2 g3 g4 g5 z t w⊢;have gd:=g2.defs;have gr:=g2.rules;rw[js U,a!,bb2 h U,a!];cases fo x.q
 .rfl
 simp only[P!,u4];cases (l.r.any λy=>s6 (y.q=x.q)) || ((l.Tables.any λy=>s6 (y.q=x.q)) || (l.e.take i).any λy=>s6 (y.q=x.q))
 .simp only[t!,u4];rw[al9 (l:=l) (x:=x) hi rfl,a!];cases TB l i x
  .simp only[t!,u4];by_cases u:12<a00 x.w
   .rw[J,J u];rfl
   rw[p6,p6 u];by_cases r:12<a00 x.d
   .rw[J,J r];rfl
   rw[p6,p6 r,t,a!];have B:ca (Mi l (i:Int) x) 0=M (Rb () ((ff (AP l x) x.f.length).map (BU i))):=by
    rw[←lK];exact Gb (λk=>(k:Int)) _ _ _ (λk hk _=>by
     unfold Mi AP;rw[J,w hk,a!,n! hk,f? (n:=300+(k:Int)) U U,pa U];dsimp only;by_cases p:EF x (xJ l x) k x.f[k]=0
     .rw[p6,J p];rfl
     .rw[J p,p6 p];rfl) (λ_=>by grind[Mi])
   have C:ca (Li (i:Int) x) 0=M (Rb () ((ff (eM x) x.d.length).map (BU i))):=by
    rw[←lK];exact Gb (λk=>(k:Int)) _ _ _ (λk hk _=>by
     have E:=λy=>qB (s:=x) (d:=(k:Int)) (y:=y);have q2:=(DB x (k:Int) x.d.length).len;have D:ca (Hj (i:Int) (k:Int) (mG x (k:Int) x.d.length)) 0=M (Rb () (ff (λj=>if((mG x (k:Int) x.d.length)[j]?.any λy=>s6 (y=(k:Int)))=a38 then M (l? (BU i (9,200+(k:Int))))else s5) (mG x (k:Int) x.d.length).length)):=
      Gb (λj=>(j:Int)) _ _ _ (λj hj _=>by
       unfold Hj;rw[J,va hj,a!,n! hj,f? (n:=200+(k:Int)) U U,pa U];simp only[xac,w3];by_cases he:(mG x (k:Int) x.d.length)[j]=(k:Int)
       .rw[J he,J he];rfl
       .rw[p6 he,p6 he];rfl) (λ_=>by grind[Hj])
     unfold Li eM;rw[J,Pp g2,a!,D,a!,pa U];have a:=Wv (l:=mG x (k:Int) x.d.length) (q:=λy=>s6 (y=(k:Int))) (g:=λ_=>(l? (BU i (9,200+(k:Int))):Ex Int Unit ll))
     cases h2:ff (λj=>if((mG x (k:Int) x.d.length)[j]?.any λy=>s6 (y=(k:Int)))=a38 then M (l? (BU i (9,200+(k:Int))):Ex Int Unit ll)else s5) (mG x (k:Int) x.d.length).length with
     |none=>
      rw[h2]at a;rw[if_neg]
      .rfl
      grind
     |some v=>
      rw[h2]at a;obtain⟨y,A,hyk⟩:=Yac.1 a.symm;have:y=(k:Int):=l5
      subst this;rw[J ((E _).1 A)];obtain⟨j,-,b,-⟩:=Qa.1 h2;split at b
      .injection b with b;subst b;rfl
      simp_all) (λ_=>by grind[Li])
   cases c:ff (inF l x) x.w.length with
   |some v=>
    have:=QG (f:=inF l x) sZ c
    simp_all[BU]
   |none=>
    dsimp only
    cases e:ff (fM l x) x.d.length with
    |some v=>
     have:=QG (f:=fM l x) dT e
     simp_all[BU]
    |none=>
     dsimp only;rw[p6 o0,B]
     cases m:ff (AP l x) x.f.length with
     |some v=>
      have:=QG (f:=AP l x) gU m
      simp_all[Rb]
     |none=>
      simp only[Option.map_none,Rb,a!];rw[C]
      cases o:ff (eM x) x.d.length with
      |some v=>
       have:=QG (f:=eM x) aP1 o
       simp_all[Rb]
      |none=>rfl
  .rfl
 .rfl
noncomputable def Yo(l:cb):ll:=
 if 8<a00 l.r then⟨4,1,8,0⟩
 else match ff (λi=>match l.r[i]? with|some x=>if(Qh l i x).1=0 then s5 else M (⟨(Qh l i x).1,1,(i:Int),(Qh l i x).2⟩:ll)|none=>s5) l.r.length with
  |some v=>v
  |none=>
   if 8<a00 l.Tables then⟨4,2,8,0⟩
   else match ff (λi=>match l.Tables[i]? with|some x=>if(yr l i x).1=0 then s5 else M (⟨(yr l i x).1,2,(i:Int),(yr l i x).2⟩:ll)|none=>s5) l.Tables.length with
    |some v=>v
    |none=>
     if 4<a00 l.e then⟨4,3,4,0⟩
     else(ff (λi=>match l.e[i]? with|some x=>if(kl l i x).1=0 then s5 else M (BU i (kl l i x))|none=>s5) l.e.length).getD ⟨0,0,0,0⟩
theorem aG{f:Nat->Option ll}(hf:∀{k v},f k=M v->v.Code≠0) {v:ll}(h:ff f n=M v):v.Code≠0:=by
 grind[Qa]
theorem XY{l:cb}{v:ll}(h:(match l.r[k]? with|some x=>if(Qh l k x).1=0 then s5 else M (⟨(Qh l k x).1,1,(k:Int),(Qh l k x).2⟩:ll)|none=>s5)=M v):v.Code≠0:=by
 grind
theorem U0{l:cb}{v:ll}(h:(match l.Tables[k]? with|some x=>if(yr l k x).1=0 then s5 else M (⟨(yr l k x).1,2,(k:Int),(yr l k x).2⟩:ll)|none=>s5)=M v):v.Code≠0:=by
 grind
theorem wk{l:cb}(h:m? l):Ep l=M (Yo l):=by
 have hne:=h.ne;have hnt:=h.nt;have hns:=h.ns;have le:ca (rm l) 0=M (Rb () (ff (λi=>match l.r[i]? with|some x=>if(Qh l i x).1=0 then s5 else M (⟨(Qh l i x).1,1,(i:Int),(Qh l i x).2⟩:ll)|none=>s5) l.r.length)):=
  Gb (λk=>(k:Int)) _ _ _ (λk hk _=>by
   unfold rm;rw[J,va hk,a!,lM h hk,a!,n! hk,pa U];dsimp only;by_cases a:(Qh l k l.r[k]).1=0
   .rw[p6,J a];rfl
   .rw[J a,p6 a];rfl) (λ_=>by grind[rm])
 have ls:ca (xk l) 0=M (Rb () (ff (λi=>match l.e[i]? with|some x=>if(kl l i x).1=0 then s5 else M (BU i (kl l i x))|none=>s5) l.e.length)):=
  Gb (λk=>(k:Int)) _ _ _ (λk hk _=>by
   unfold xk;rw[J,uK h hk,a!,n! hk,pa U];dsimp only;by_cases a:(kl l k l.e[k]).1=0
   .rw[p6,J a];rfl
   .rw[J a,p6 a];rfl) (λ_=>by grind[xk])
 unfold Ep Xv Ju Iu Yo;by_cases b:8<a00 l.r
 .grind
 rw[p6,p6 b,le]
 cases c:ff (λi=>match l.r[i]? with|some x=>if(Qh l i x).1=0 then s5 else M (⟨(Qh l i x).1,1,(i:Int),(Qh l i x).2⟩:ll)|none=>s5) l.r.length with
 |some v=>
  have:=aG (f:=λi=>match l.r[i]? with|some x=>if(Qh l i x).1=0 then s5 else M (⟨(Qh l i x).1,1,(i:Int),(Qh l i x).2⟩:ll)|none=>s5) XY c
  simp_all[Rb]
 |none=>
  simp only[Rb,a!];rw[p6 o0];by_cases b:8<a00 l.Tables
  .grind
  rw[p6,p6 b,U8 h]
  cases d:ff (λi=>match l.Tables[i]? with|some x=>if(yr l i x).1=0 then s5 else M (⟨(yr l i x).1,2,(i:Int),(yr l i x).2⟩:ll)|none=>s5) l.Tables.length with
  |some v=>
   have:=aG (f:=λi=>match l.Tables[i]? with|some x=>if(yr l i x).1=0 then s5 else M (⟨(yr l i x).1,2,(i:Int),(yr l i x).2⟩:ll)|none=>s5) U0 d
   simp_all[Rb]
  |none=>
   simp only[Rb,a!];rw[p6 o0];by_cases b:4<a00 l.e
   .grind
   rw[p6,p6 b,ls];cases ff (λi=>match l.e[i]? with|some x=>if(kl l i x).1=0 then s5 else M (BU i (kl l i x))|none=>s5) l.e.length<;>rfl
theorem VC{l:cb}(h:m? l):Js l=M (Yo l):=by
 have hne:=h.ne;have hnt:=h.nt;have hns:=h.ns;have le:ca (Lm l) 0=M (Rb () (ff (λi=>match l.r[i]? with|some x=>if(Qh l i x).1=0 then s5 else M (⟨(Qh l i x).1,1,(i:Int),(Qh l i x).2⟩:ll)|none=>s5) l.r.length)):=
  Gb (λk=>(k:Int)) _ _ _ (λk hk _=>by
   unfold Lm;rw[J,lJ h hk,a!,n! hk,pa U];dsimp only;by_cases a:(Qh l k l.r[k]).1=0
   .rw[J a,p6 o0,J a];rfl
   .rw[p6 a,J,p6 a];rfl) (λ_=>by grind[Lm])
 have lt:ca (Km l) 0=M (Rb () (ff (λi=>match l.Tables[i]? with|some x=>if(yr l i x).1=0 then s5 else M (⟨(yr l i x).1,2,(i:Int),(yr l i x).2⟩:ll)|none=>s5) l.Tables.length)):=
  Gb (λk=>(k:Int)) _ _ _ (λk hk _=>by
   unfold Km;rw[J,MH h hk,a!,n! hk,pa U];dsimp only;by_cases a:(yr l k l.Tables[k]).1=0
   .rw[J a,p6 o0,J a];rfl
   .rw[p6 a,J,p6 a];rfl) (λ_=>by grind[Km])
 have ls:ca (Jm l) 0=M (Rb () (ff (λi=>match l.e[i]? with|some x=>if(kl l i x).1=0 then s5 else M (BU i (kl l i x))|none=>s5) l.e.length)):=
  Gb (λk=>(k:Int)) _ _ _ (λk hk _=>by
   unfold Jm;rw[J,LH h hk,a!,n! hk,pa U];dsimp only;by_cases a:(kl l k l.e[k]).1=0
   .rw[J a,p6 o0,J a];rfl
   .rw[p6 a,J (by grind[BU]),p6 a];rfl) (λ_=>by grind[Jm])
 unfold Js Yo;by_cases b:8<a00 l.r
 .grind
 rw[p6,p6 b,le]
 cases ff (λi=>match l.r[i]? with|some x=>if(Qh l i x).1=0 then s5 else M (⟨(Qh l i x).1,1,(i:Int),(Qh l i x).2⟩:ll)|none=>s5) l.r.length with
 |some v=>rfl
 |none=>
  simp only[Rb,a!];by_cases b:8<a00 l.Tables
  .grind
  rw[p6,p6 b,lt]
  cases ff (λi=>match l.Tables[i]? with|some x=>if(yr l i x).1=0 then s5 else M (⟨(yr l i x).1,2,(i:Int),(yr l i x).2⟩:ll)|none=>s5) l.Tables.length with
  |some v=>rfl
  |none=>
   simp only[Rb,a!];by_cases b:4<a00 l.e
   .grind
   rw[p6,p6 b,ls];cases ff (λi=>match l.e[i]? with|some x=>if(kl l i x).1=0 then s5 else M (BU i (kl l i x))|none=>s5) l.e.length<;>rfl
structure D! (l:cb):Prop where
 e:∀i (h:i<a00 l.r),(Qh l i l.r[i]).1=0
 t:∀i (h:i<a00 l.Tables),(yr l i l.Tables[i]).1=0
 s:∀i (h:i<a00 l.e),(kl l i l.e[i]).1=0
 ne:l.r.length<=8
 nt:l.Tables.length<=8
 ns:l.e.length<=4
theorem NF{l:cb}(h:(Yo l).Code=0):D! l:=by
 unfold Yo at h;split at h
 .grind
 rename_i h1;split at h
 .rename_i v hv;exact(aG (f:=λi=>match l.r[i]? with|some x=>if(Qh l i x).1=0 then s5 else M (⟨(Qh l i x).1,1,(i:Int),(Qh l i x).2⟩:ll)|none=>s5) XY hv h).elim
 rename_i he;split at h
 .grind
 rename_i h2;split at h
 .rename_i v hv;exact(aG (f:=λi=>match l.Tables[i]? with|some x=>if(yr l i x).1=0 then s5 else M (⟨(yr l i x).1,2,(i:Int),(yr l i x).2⟩:ll)|none=>s5) U0 hv h).elim
 rename_i ht;split at h
 .grind
 rename_i h3;refine⟨λi hi=>?_,λi hi=>?_,λi hi=>?_,U,U,U⟩
 .grind[db]
 .grind[db]
 .generalize hf:ff _ l.e.length=o at h
  cases o with
  |some v=>
   rw[κ]at h;obtain⟨k,c,a,-⟩:=Qa.1 hf;rw[n! c]at a;dsimp only at a;split at a
   .grind
   .rename_i b;injection a with a;subst a;exact(b h).elim
  |none=>
   grind[db]
theorem D!.rows{l:cb}(h:D! l):∀x∈l.Tables,a00 x.Rows<=64:=by
 intro x hx;obtain⟨i,hi,rfl⟩:=H' hx;have:=h.t i hi
 grind[yr,dv]
theorem mI(hn:n<=1048576) (bad:Nat->Bool) (a:∀i:Nat,i<n->step (i:Int)=if bad i=a38 then M (.ret a39)else M (.go (aa .i64 ((i:Int)+1)))) (b:step (n:Int)=M (.brk ())) :
 (ca step 0=M (.inr a39))\/(ca step 0=M (.inl ())/\∀i,i<n->bad i=a39):=by
 have h:=Gb (step:=step) (x0:=0) (λi=>(i:Int)) (λi=>if bad i=a38 then M a39 else s5) n () (λi hi _=>by
  rw[a i hi,pa U];cases bad i<;>rfl) (λ_=>b)
 cases hf:ff (λi=>if bad i=a38 then M a39 else s5) n with
 |none=>
  right;rw[hf]at h;refine⟨h,λi hi=>?_⟩
  grind[db]
 |some v=>
  left;rw[hf]at h;obtain⟨k,-,c,-⟩:=Qa.1 hf;split at c
  .injection c with c;subst c;exact h
  grind
structure η (s:ek):Prop where
 nm:s.q.size<=80
 ins:s.w.length<=14
 defs:s.d.length<=14
 rules:s.f.length<=60
 i:∀f∈s.w,f.q.size<=80
 d:∀f∈s.d,f.q.size<=80
 r:∀r∈s.f,r.q.size<=80/\r.a4.size<=80/\r.ak.length<=50/\r.Value.length<=50
variable {s:ek}
theorem yJ(s:ek):∃b,sj s=M b/\(b=a38->η s):=by
 unfold sj;by_cases h1:80<(s.q.size:Int)
 .simp_all
 by_cases h2:14<(a00 s.w:Int)
 .simp_all
 by_cases h3:14<(a00 s.d:Int)
 .simp_all
 by_cases h4:60<(a00 s.f:Int)
 .simp_all
 have hc:(if¬80<(s.q.size:Int)then if¬14<(a00 s.w:Int)then if¬14<(a00 s.d:Int)then M (s6 (60<(a00 s.f:Int)))else M a38 else M a38 else M a38)=M a39:=by
  grind
 rw[hc,a!,p6 o0];rcases mI (n:=a00 s.w) U (λi=>match s.w[i]? with|some f=>s6 (80<(f.q.size:Int))|none=>a39) (step:=il s) (λi hi=>by
  grind[il,va]) (by grind[il])with k|⟨k,k1⟩
 .grind
 rw[k,a!];dsimp only;rcases mI (n:=a00 s.d) U (λi=>match s.d[i]? with|some f=>s6 (80<(f.q.size:Int))|none=>a39) (step:=bl s) (λi hi=>by
  grind[bl,va]) (by grind[bl])with k|⟨k,k2⟩
 .grind
 rw[k,a!];dsimp only;rcases mI (n:=a00 s.f) U (λi=>match s.f[i]? with|some r=>s6 (80<(r.q.size:Int)\/80<(r.a4.size:Int)\/50<(a00 r.ak:Int)\/50<(a00 r.Value:Int))|none=>a39) (step:=Zk s) (λi hi=>by
  unfold Zk;rw[J,va hi,a!,n! hi]
  grind) (by grind[Zk])with k|⟨k,k3⟩
 .grind
 rw[k,a!];refine⟨a38,rfl,λ_=>⟨U,U,U,U,?_,?_,?_⟩⟩
 .intro f hf;obtain⟨i,hi,rfl⟩:=H' hf
  grind
 .intro f hf;obtain⟨i,hi,rfl⟩:=H' hf
  grind
 .intro r hr;obtain⟨i,hi,rfl⟩:=H' hr
  grind
def lz(l:cb):Nat->Int
 |0=>0
 |k+1=>match l.Tables[k]? with|some t=>aa .i64 (lz l k+(a00 t.Rows:Int))|none=>lz l k
structure T! (l:cb):Prop where
 ne:l.r.length<=9
 nt:l.Tables.length<=9
 ns:l.e.length<=5
 e:∀x∈l.r,x.q.size<=80/\x.s.length<=20/\∀m∈x.s,m.size<=80
 t:∀x∈l.Tables,x.q.size<=80
 s:∀x∈l.e,η x
 rt:∀i,i<a00 l.Tables->lz l (i+1)<=150
variable {l:cb}
def lG(l:cb):Nat->Int
 |0=>0
 |k+1=>match l.e[k]? with|some t=>aa .i64 (lG l k+(a00 t.f:Int))|none=>lG l k
def aq2(l:cb) (i:Nat):Bool:=match l.r[i]? with|some x=>s6 (80<(x.q.size:Int)) || s6 (20<(a00 x.s:Int)) || (x.s.any λm=>s6 (80<(m.size:Int)))|none=>a39
theorem IV(hi:i<a00 l.r):aq2 l i=(s6 (80<(l.r[i].q.size:Int)) || s6 (20<(l.r[i].s.length:Int)) || (l.r[i].s.any λm=>s6 (80<(m.size:Int)))):=by
 grind[aq2]
theorem EM(l:cb):∃b,Eu l=M b/\(b=a38->T! l):=by
 unfold Eu;by_cases h1:9<(a00 l.r:Int)
 .simp_all
 by_cases h2:9<(a00 l.Tables:Int)
 .simp_all
 by_cases h3:5<(a00 l.e:Int)
 .simp_all
 have hc:(if¬9<(a00 l.r:Int)then if¬9<(a00 l.Tables:Int)then M (s6 (5<(a00 l.e:Int)))else M a38 else M a38)=M a39:=by
  grind
 rw[hc,a!,p6 o0];have d:∀i (hi:i<a00 l.r),l.r[i].s.length<=20->ca (fk l (i:Int)) 0=M (if(l.r[i].s.any λm=>s6 (80<(m.size:Int)))=a38 then .inr (.ret a39)else .inl ()):=by
  intro i hi hm;have h:=Gb (step:=fk l (i:Int)) (x0:=0) (λk=>(k:Int)) (λk=>if(l.r[i].s[k]?.any λm=>s6 (80<(m.size:Int)))=a38 then M (l? a39)else s5) l.r[i].s.length () (λk hk _=>by
   unfold fk;rw[va hi,a!,J,va hk,a!,n! hk,pa U];simp only[xac,w3];by_cases hb:80<(l.r[i].s[k].size:Int)
   .rw[J hb,J hb];rfl
   .rw[p6 hb,p6 hb];rfl) (λ_=>by grind[fk,va])
  rw[h,←Wv (g:=λ_=>(l? a39:Ex Int Unit Bool))]
  cases hf:ff (λk=>if(l.r[i].s[k]?.any λm=>s6 (80<(m.size:Int)))=a38 then M (l? a39:Ex Int Unit Bool)else s5) l.r[i].s.length with
  |none=>rfl
  |some v=>
   obtain⟨k,-,e,-⟩:=Qa.1 hf;split at e
   .injection e with e;subst e;rfl
   grind
 rcases mI (n:=a00 l.r) U (aq2 l) (step:=cn l) (λi hi=>by
  have d:=d i hi;unfold cn;rw[J,va hi,a!,IV hi]
  grind) (by grind[cn])with k|⟨k,k1⟩
 .grind
 rw[k,a!];dsimp only;have p:=Gb (step:=bn l) (x0:=(0,0)) (λi=>(lz l i,(i:Int))) (λi=>match l.Tables[i]? with|some x=>if(s6 (80<(x.q.size:Int)) || s6 (150<lz l (i+1)))=a38 then M a39 else s5|none=>s5) l.Tables.length () (λi hi _=>by
  unfold bn;simp only[lz,n! hi];rw[J,va hi,a!,pa U]
  grind[mE]) (λ_=>by grind[bn])
 rw[p,a!]
 cases hf:ff (λi=>match l.Tables[i]? with|some x=>if(s6 (80<(x.q.size:Int)) || s6 (150<lz l (i+1)))=a38 then M a39 else s5|none=>s5) l.Tables.length with
 |some v=>
  refine⟨a39,?_,o0⟩;obtain⟨j,o,a,-⟩:=Qa.1 hf;rw[n! o]at a;dsimp only at a;split at a
  .injection a with a;subst a;rfl
  grind
 |none=>
  have ht2:=db.1 hf;dsimp only[Rb];have hS:=Gb (step:=Zm l) (x0:=(0,0)) (λi=>(lG l i,(i:Int))) (λi=>match l.e[i]? with|some x=>if(s6 (60<lG l (i+1)) || !((sj x).getD a38))=a38 then M a39 else s5|none=>s5) l.e.length () (λi hi _=>by
   unfold Zm;simp only[lG,n! hi];rw[J,va hi,a!,pa U];obtain⟨b,hb,-⟩:=yJ l.e[i]
   grind[mE]) (λ_=>by grind[Zm])
  rw[hS,a!]
  cases c:ff (λi=>match l.e[i]? with|some x=>if(s6 (60<lG l (i+1)) || !((sj x).getD a38))=a38 then M a39 else s5|none=>s5) l.e.length with
  |some v=>
   refine⟨a39,?_,o0⟩;obtain⟨j,o,a,-⟩:=Qa.1 c;rw[n! o]at a;dsimp only at a;split at a
   .injection a with a;subst a;rfl
   grind
  |none=>
   have f:=db.1 c;refine⟨a38,rfl,λ_=>⟨U,U,U,?_,?_,?_,λi hi=>?_⟩⟩
   .intro x hx;obtain⟨i,hi,rfl⟩:=H' hx
    grind[IV]
   .intro x hx;obtain⟨i,hi,rfl⟩:=H' hx
    grind
   .intro x hx;obtain⟨i,hi,rfl⟩:=H' hx;have:=f i hi;rw[n! hi]at this;dsimp only at this;split at this
    .cases this
    .rename_i hn;obtain⟨b,hb,hb2⟩:=yJ l.e[i]
     grind
   grind
theorem uS{l:cb}(hr:∀t∈l.Tables,a00 t.Rows<=1125899906842624) (hn:l.Tables.length<=9):∀n,n<=a00 l.Tables->0<=lz l n/\lz l n<=1125899906842624*n/\∀i (hi:i<a00 l.Tables),i<n->(l.Tables[i].Rows.length:Int)<=lz l n
 |0,_=>by simp[lz]
 |n+1,h=>by
  obtain⟨h1,h2,h3⟩:=uS hr hn n U
  grind[lz,f?]
theorem T!.rows(h:T! l) (hr:∀t∈l.Tables,a00 t.Rows<=1125899906842624):∀t∈l.Tables,a00 t.Rows<=150:=by
 intro t ht;obtain⟨i,hi,rfl⟩:=H' ht;obtain⟨-,-,a⟩:=uS hr h.nt (i+1) hi;have:=a i hi U;have:=h.rt i hi;omega
def aw8(l:cb):Prop:=∀s∈l.e,∀r∈s.f,(∀n∈r.ak,cc n)/\∀n∈r.Value,cc n
theorem T!.ok(h:T! l) (ht:aw8 l):m? l:=by
 have hne:=h.ne;have hnt:=h.nt;have hns:=h.ns;refine⟨U,U,U,λx hx=>?_,λx hx=>?_,λx hx=>?_⟩
 .obtain⟨a,b,c⟩:=h.e x hx
  grind
 .have:=h.t x hx;omega
 .obtain⟨a,b,c,d,e,f,g⟩:=h.s x hx;refine⟨U,⟨U,U,λr hr=>o4⟩,U,λq hq=>o4,λq hq=>o4,λr hr=>?_⟩;have:=g r hr;obtain⟨t1,t2⟩:=ht x hx r hr
  grind
end Go.Proofs.Dev
