/-
  The functions as plain partial functions, and plain lemmas about them: no condition.
-/
import Derived.Test.YtnlamdfggbdblaaGreatDoorPA
open Bool renaming and_false->Rac,false_and->Sac,false_eq_true->haa,not_eq_true->had,not_false->gac,not_true->xab,or_false->Yac,true_and->Uaa,true_eq_false->saa
open ByteArray renaming empty->wac,mk->faa
open Classical renaming not_forall->Qac,not_imp->dad
open Int renaming natAbs_tdiv->lad,reduceBEq->kaa,reduceEq->maa,tdiv->Baa,tdiv_nonneg->xac,tmod->Jaa,tmod_nonneg->mad
open List renaming any_eq_true->iad,cons_append->Haa,eq_nil_of_length_eq_zero->zaa,filter_append->iab,foldl_cons->mab,getElem?_eq_getElem->caa,getElem_mem->iaa,getElem_of_mem->Aaa,getElem_take->bac,length_filter_le->Qaa,mem_cons->gab,mem_filter->lac,mem_map->Xab,mem_of_mem_drop->fac,mem_singleton->jab,nodup_cons->oad,pairwise_cons->oab,range->uaa,replicate->gaa,take_add_one->Laa,take_length->wab
open Nat renaming add_zero->Zab,le_refl->oaa,le_trans->kab
open Option renaming any_some->Yaa,bind->baa,bind_some->aaa,getD_some->Uab,isSome_iff_exists->Nab
open Option.some renaming inj->Faa,injEq->Maa
set_option linter.all false
namespace Go.Tm
variable {α β ρ σ:Type}
theorem wid{n:Int}(h1:-9223372036854775808<=n) (h2:n<9223372036854775808):ea .i64 n=n:=by
 grind[ea,OF]
theorem xa{i:Nat}(h:i<4611686018427387904):ea .i64 ((i:Int)+1)=((i+1:Nat):Int):=by
 grind[wid]
theorem Ba{l:List α}{i:Nat}(h:i<l.length):idx l (i:Int)=some l[i]:=by
 grind[idx]
theorem VH{l:List α}{i:Nat}:idx l (i:Int)=l[i]?:=by
 simp[idx]
theorem Di{l:List α}{i:Int}(h1:0<=i) (h2:i<l.length):idx l i=some (l[i.toNat]'(by omega)):=by
 simp_all[idx]
theorem MF{b:ByteArray}{i:Nat}(h:i<b.size):Zr b (i:Int)=some (b[i].toNat:Int):=by
 simp_all[Zr]
theorem bt{l:List α}{i:Nat}(h:i<=l.length):Zq l (i:Int)=some (l.take i):=by
 simp_all[Zq]
theorem jW{l:List α}{i:Nat}(h:i<=l.length):aC l (i:Int)=some (l.drop i):=by
 simp_all[aC]
theorem Xe{b:Nat}{l r:List α}(h:(l.length+r.length)*b<=140737488355328):app b l r=some (l++r):=if_pos (by omega)
theorem dw{l:List α}{i:Nat}{x:α}(h:i<l.length):put l (i:Int) x=some (l.set i x):=by
 simp_all[put]
theorem UB{b n:Nat}{x:α}(h:n*b<=281474976710656) (h2:n<=4611686018427387904):sE b x (n:Int) (n:Int)=some (gaa n x):=by
 grind[sE]
def ff(f:Nat->Option ρ):Nat->Option ρ
 |0=>none
 |n+1=>match f 0 with|some v=>some v|none=>ff (λi=>f (i+1)) n
theorem NH{f g:Nat->Option ρ}:∀{n:Nat},(∀i,i<n->f i=g i)->ff f n=ff g n
 |0,_=>rfl
 |n+1,h=>by
  simp only[ff,h 0 (by omega)];rw[NH (n:=n) (f:=λi=>f (i+1)) (g:=λi=>g (i+1)) λi hi=>h (i+1) (by omega)]
theorem Xb{f:Nat->Option ρ}:∀{n:Nat},ff f n=none↔∀i,i<n->f i=none
 |0=>by simp[ff]
 |n+1=>by
  simp only[ff];constructor
  .intro h i hi
   cases h0:f 0 with
   |some v=>simp_all
   |none=>
    simp only[h0]at h
    cases i with
    |zero=>omega
    |succ i=>exact(Xb (f:=λi=>f (i+1))).1 h i (by omega)
  .intro h;rw[h 0 (by omega)];exact Xb.2 λi hi=>h (i+1) (by omega)
theorem Ta{f:Nat->Option ρ}{v:ρ}:∀{n:Nat},ff f n=some v↔∃i,i<n/\f i=some v/\∀j,j<i->f j=none
 |0=>by simp[ff]
 |n+1=>by
  simp only[ff];constructor
  .intro h
   cases h0:f 0 with
   |some w=>grind
   |none=>
    simp only[h0]at h;obtain⟨i,h1,h2,h3⟩:=(Ta (f:=λi=>f (i+1))).1 h;exact⟨i+1,by omega,h2,λj hj=>by cases j with|zero=>omega|succ j=>simp_all⟩
  .rintro⟨i,h1,h2,h3⟩
   cases i with
   |zero=>rw[h2]
   |succ i=>
    rw[h3 0 (by omega)];exact Ta.2 ⟨i,by omega,h2,λj hj=>h3 (j+1) (by omega)⟩
def Vb(b:β):Option ρ->β⊕ρ
 |none=>.inl b
 |some v=>.inr v
def lC(s:σ):Option ρ->Ex σ β ρ
 |none=>.go s
 |some v=>.ret v
theorem JJ{b:β}:Vb b (none:Option ρ)=.inl b:=rfl
theorem LJ{b:β}{v:ρ}:Vb b (some v)=.inr v:=rfl
theorem Kb{step:σ->Option (Ex σ β ρ)}{x0:σ}(S:Nat->σ) (f:Nat->Option ρ) (n:Nat) (b:β)
 (hgo:∀i,i<n->(∀j,j<i->f j=none)->step (S i)=some (lC (S (i+1)) (f i))) (hend:(∀j,j<n->f j=none)->step (S n)=some (.brk b)) (h0:x0=S 0:=by rfl) :
 fa step x0=some (Vb b (ff f n)):=by
 have key:∀k i,i+k=n->(∀j,j<i->f j=none)->fa step (S i)=some (Vb b (ff (λj=>f (i+j)) k)):=by
  intro k
  induction k with
  |zero=>
   intro i hi hf;rw[Zab]at hi;subst hi;rw[Nc (hend hf)];rfl
  |succ k ih=>
   intro i hi hf;have hs:=hgo i (by omega) hf;simp only[ff,Zab]
   cases h0:f i with
   |some v=>
    rw[h0]at hs;rw[cr hs];rfl
   |none=>
    rw[h0]at hs;rw[Yd hs,ih (i+1) (by omega) λj hj=>by grind]
    grind
 simp_all
theorem Kc{step:σ->Option (Ex σ β ρ)}{x0:σ}(S:Nat->σ) (n:Nat) (b:β) (hgo:∀i,i<n->step (S i)=some (.go (S (i+1)))) (hend:step (S n)=some (.brk b)) (h0:x0=S 0:=by rfl):fa step x0=some (.inl b):=by
 have key:∀k i,i+k=n->fa step (S i)=some (.inl b):=by
  intro k
  induction k with
  |zero=>simp_all[Nc]
  |succ k ih=>grind[Yd]
 simp_all
theorem kY{l:List α}{p:α->Option Bool}(q:α->Bool) (hp:∀x∈l,p x=some (q x)) (hl:l.length<4611686018427387904) :
 fa (λ(s:Int)=>if s<(l.length:Int)then(idx l s).bind λx=>(p x).bind λc=>if c=true then some (Ex.ret s)else some (Ex.go (ea .i64 (s+1)))else some (Ex.brk ())) 0
  = some (Vb () (ff (λi=>if(l[i]?.any q)=true then some (i:Int)else none) l.length)):=by
 refine Kb (λi=>(i:Int)) _ l.length () (λi hi _=>?_) (λ_=>?_)
 .rw[if_pos (by omega),Ba hi,aaa,hp _ (iaa hi),aaa,wid (by omega) (by omega)]
  grind[lC]
 simp
theorem Wk{l:List α}{q:α->Bool}{g:Nat->ρ}:(ff (λi=>if(l[i]?.any q)=true then some (g i)else none) l.length).isSome=l.any q:=by
 rw[Bool.eq_iff_iff,Nab,iad];constructor
 .grind[Ta]
 .rintro⟨x,hx,hq⟩;rw[←Nab,←Option.not_isNone,Bool.not_eq_true',Option.isNone_eq_false_iff,Option.isSome_iff_ne_none];intro hn;obtain⟨i,hi,rfl⟩:=Aaa hx
  grind[Xb]
theorem Vl{l:List α}{p:α->Option Bool}(q:α->Bool) (hp:∀x∈l,p x=some (q x)) (hl:l.length<4611686018427387904) {o:Option (Unit⊕Int)}
 (ho:o=fa (λ(s:Int)=>if s<(l.length:Int)then(idx l s).bind λx=>(p x).bind λc=>if c=true then some (Ex.ret s)else some (Ex.go (ea .i64 (s+1)))else some (Ex.brk ())) 0) :
 ((o.bind λy=>match y with|.inr v=>some v|.inl _=>some (-1)).bind λx=>some (decide (0<=x)))=some (l.any q):=by
 rw[ho,kY q hp hl];rw[←Wk (q:=q) (g:=λi=>(i:Int))]
 cases h:ff (λi=>if(l[i]?.any q)=true then some (i:Int)else none) l.length with
 |none=>simp[Vb]
 |some v=>
  grind[Vb,Ta]
end Go.Tm
set_option maxRecDepth 10000
namespace Go.Proofs.Dev
open Go Go.Tm
def tP(c:Int):Bool:=decide (97<=c)&&decide (c<=122)
def mX(c:Int):Bool:=decide (48<=c)&&decide (c<=57)
def JI(c:Int):Bool:=tP c || mX c || c==95
theorem ew{a b c:Int}:(baa (if a<=c then some (decide (c<=b))else some false) λj=>some j)=some (decide (a<=c)&&decide (c<=b)):=by
 grind
theorem jv(c:Int):Jm c=some (tP c):=ew
theorem RB(c:Int):Dp c=some (mX c):=ew
theorem Ix(c:Int):Yp c=some (tP c):=ew
theorem ME(c:Int):Ts c=some (mX c):=ew
theorem GG(c:Int):Ir c=some (JI c):=by
 grind[Ir,JI,Ix,ME]
def Cq(s:ByteArray) (i:Nat):Bool:=if h:i<s.size then JI (s[i].toNat:Int)else false
def Cw(s:ByteArray):Bool:=(ff (λi=>if Cq s i=true then none else some ()) s.size).isNone
theorem Yx{s:ByteArray}(hs:s.size<4611686018427387904):∃n,Wi s=some n/\(n=(s.size:Int)↔Cw s=true):=by
 have hstep:∀i:Nat,i<s.size->Wc s (i:Int)=some (if Cq s i=true then .go ((i+1:Nat):Int)else .brk (i:Int)):=by
  intro i hi;unfold Wc;rw[if_pos (by omega),MF hi,aaa];simp only[jv,RB,aaa,Cq,dif_pos hi,JI]
  grind[wid]
 have w1:∀i,(if Cq s i=true then none else some ())=none->Cq s i=true:=λi h=>by
  simp_all
 unfold Wi
 cases h:ff (λi=>if Cq s i=true then none else some ()) s.size with
 |none=>
  have h1:=Xb.1 h;have hl:fa (Wc s) 0=some (.inl (s.size:Int)):=Kc (λi=>(i:Int)) s.size (s.size:Int)
   (λi hi=>by simp_all) (by grind[Wc])
  rw[hl];exact⟨_,rfl,by grind[Cw]⟩
 |some v=>
  obtain⟨k,h1,h2,h3⟩:=Ta.1 h;have hl:fa (Wc s) 0=some (.inl (k:Int)):=Kc (λi=>(i:Int)) k (k:Int)
   (λi hi=>by grind) (by
    simp_all)
  rw[hl];exact⟨_,rfl,by grind[Cw]⟩
noncomputable def LA:List ByteArray:=(kf).getD []
theorem kP{p:Prop} [Decidable p] {b:Bool}:(if p then some true else some b)=some (decide p || b):=by
 grind
theorem yL{s a:ByteArray}{l:List ByteArray}:((a::l).any λr=>decide (s=r))=(decide (s=a) || (l.any λr=>decide (s=r))):=rfl
theorem EN{s:ByteArray}:(([]:List ByteArray).any λr=>decide (s=r))=false:=rfl
theorem SJ(s:ByteArray):Xd s=some (LA.any λr=>decide (s=r)):=by
 unfold Xd LA kf;simp (config := { maxSteps := 4000000 }) only[Uab,yL,EN,kP,aaa,Yac];simp
theorem RJ(s:ByteArray):∃b,Xd s=some b:=by
 unfold Xd;simp (config := { maxSteps := 4000000 }) only[kP,aaa];simp
noncomputable def xU(s:ByteArray):Bool:=(Xd s).getD false
theorem UD(s:ByteArray):Xd s=some (xU s):=by
 obtain⟨b,h⟩:=RJ s
 grind[xU]
noncomputable def Ri(s:ByteArray):Bool:=if h:0<s.size/\s.size<=16 then tP (s[0].toNat:Int)&&Cw s&&!(xU s)else false
theorem uF{s:ByteArray}:s=faa #[]↔s.size=0:=by
 constructor
 .rintro rfl;rfl
 .intro h;obtain⟨a⟩:=s;congr 1;exact Array.eq_empty_of_size_eq_zero h
theorem En{s:ByteArray}(hs:s.size<4611686018427387904):qb s=some (Ri s):=by
 obtain⟨n,hn,hn2⟩:=Yx hs;unfold qb Ri;by_cases h0:s.size=0
 .simp_all[uF]
 .have hx:Zr s 0=some (s[0].toNat:Int):=MF (i:=0) (by omega);rw[if_pos (by grind[uF]),hx];simp only[aaa,jv,hn,hn2,UD]
  grind
theorem ql{s:ByteArray}(hs:s.size<4611686018427387904):sb s=some (Ri s):=by
 unfold sb Ri;by_cases h:0<s.size/\s.size<=16
 .have hx:Zr s 0=some (s[0].toNat:Int):=MF (i:=0) (by omega);have hres:xU s=LA.any λr=>decide (s=r):=Faa ((UD s).symm.trans (SJ s));rw[dif_pos h,if_pos (by omega),if_pos (by omega),hx,hres];simp only[aaa,Ix]
  cases hl:tP (s[0].toNat:Int)with
  |false=>simp
  |true=>
   have hl1:fa (De s) 0=some (Vb () (ff (λi=>if Cq s i=true then none else some false) s.size)):=
    Kb (λi=>(i:Int)) _ s.size () (λi hi _=>by
     unfold De;rw[if_pos (by omega),MF hi];simp only[aaa,GG,Cq,dif_pos hi];rw[wid (by omega) (by omega)];cases JI (s[i].toNat:Int)<;>rfl) (λ_=>by grind[De])
   have hR:kf=some LA:=by grind[LA,kf]
   have hlen:LA.length=55:=by unfold LA kf;rfl
   have hl2:fa (Ce s LA) 0=some (Vb () (ff (λi=>if(LA[i]?.any λr=>decide (s=r))=true then some false else none) LA.length)):=
    Kb (λi=>(i:Int)) _ LA.length () (λi hi _=>by
     unfold Ce;rw[if_pos (by omega),Ba hi,caa hi];simp only[aaa,Yaa,decide_eq_true_eq];rw[wid (by omega) (by omega)];by_cases he:s=LA[i]
     .rw[if_pos he.symm,if_pos he];rfl
     .rw[if_neg (λh=>he h.symm),if_neg he];rfl) (λ_=>by grind[Ce])
   simp only[xab,haa,if_false,hl1,hR,aaa];have ha:=Wk (l:=LA) (q:=λr=>decide (s=r)) (g:=λ_=>false);have hw:Cw s=(ff (λi=>if Cq s i=true then none else some false) s.size).isNone:=by
    unfold Cw
    cases h1:ff (λi=>if Cq s i=true then none else some ()) s.size with
    |none=>
     grind[Xb]
    |some v=>
     obtain⟨k,k1,k2,k3⟩:=Ta.1 h1
     cases h2:ff (λi=>if Cq s i=true then none else some false) s.size with
     |some _=>rfl
     |none=>
      grind[Xb]
   rw[hw,←ha]
   cases h1:ff (λi=>if Cq s i=true then none else some false) s.size with
   |some v=>
    grind[Vb,Ta]
   |none=>
    simp only[Vb,hl2,aaa,Option.isNone_none,Uaa]
    grind[Ta]
 grind
def ja(t:GType) (e:List GEnum):Bool:=
 if t.Kind=6 then decide (0<=t.Enum)&&decide (t.Enum<(e.length:Int))else decide (1<=t.Kind)&&decide (t.Kind<=5)&&(t.Enum==0)
noncomputable def vtX(t0:GType) (t1:List GEnum):Option Bool:=
 if t0.Kind=6 then
  baa (α:=Bool) (
   if 0<=t0.Enum then
    some (decide (t0.Enum<(t1.length:Int)))
   else
   some false) λj3=>
  some j3
 else
 baa (α:=Bool) (
  if 1<=t0.Kind then
   if t0.Kind<=5 then
    some (t0.Enum==0)
   else
   some false
  else
  some false) λj6=>
 some j6
theorem lW(t:GType) (e:List GEnum):vtX t e=some (ja t e):=by
 grind[vtX,ja]
theorem Oa(t:GType) (e:List GEnum):Pb t e=some (ja t e):=lW t e
theorem Na(t:GType) (e:List GEnum):Sb t e=some (ja t e):=by
 rw[←lW]
 grind[Sb,vtX]
theorem FL(t:GType) (e:List GEnum):vd t e=We t e:=by
 grind[vd,We,Na,Oa]
theorem GL(t:GType) (e:List GEnum):∃p,vd t e=some p:=by
 unfold vd;rw[Na,aaa]
 cases h:ja t e with
 |false=>simp
 |true=>
  simp only[saa,if_false]
  repeat' split
  all_goals first|exact⟨_,rfl⟩|skip
  have h6:t.Kind=6:=by
   grind[ja]
  unfold ja at h;rw[if_pos h6]at h;simp at h;rw[Di h.1 h.2];simp
noncomputable def oh(t:GType) (e:List GEnum):Int×Int:=(vd t e).getD (0,0)
theorem Pl(t:GType) (e:List GEnum):vd t e=some (oh t e):=by
 obtain⟨p,hp⟩:=GL t e
 grind[oh]
theorem xl(t:GType) (e:List GEnum):We t e=some (oh t e):=by rw[←FL,Pl]
noncomputable def RZ(n:Int) (t:GType) (e:List GEnum):Bool:=decide ((oh t e).1<=n)&&decide (n<=(oh t e).2)
theorem PJ(n:Int) (t:GType) (e:List GEnum):Jr n t e=some (RZ n t e):=by
 grind[Jr,RZ,xl]
def mN(r:GDateRange):Bool:=decide (0<=r.From)&&(decide (r.From<=r.To)&&decide (r.To<=109573))
theorem Tn(r:GDateRange):Mf r=some (mN r):=by
 grind[Mf,mN]
theorem Fp(r:GDateRange):Qh r=some (mN r):=by
 grind[Qh,mN]
def av(a b:GRow):Bool:=mN a.Valid&&mN b.Valid&&decide (max a.Valid.From b.Valid.From<min a.Valid.To b.Valid.To)&&decide (max a.Lo b.Lo<min a.Hi b.Hi)
theorem FA(a b:GRow):Bl a b=some (av a b):=by
 unfold Bl Ym av;simp only[Fp,aaa]
 grind
theorem QA(a b:GRow):Nl a b=some (av a b):=by
 unfold Nl Fi Dh av;simp only[Tn,aaa];cases mN a.Valid<;>cases mN b.Valid<;>simp only[haa,if_false,if_true,aaa,gac,xab,Sac,Uaa,Rac]
 all_goals grind
noncomputable def rE(x:GRow) (t:GTable) (e:List GEnum):Bool:=
 !(mN x.Valid) || decide (x.Valid.From=x.Valid.To) || decide (x.Hi<=x.Lo) || !(RZ x.Lo t.Key e) || !(RZ (ea .i64 (x.Hi-1)) t.Key e) || !(RZ x.N t.Value e)
theorem OE(x:GRow) (t:GTable) (e:List GEnum):Zp x t e=some (rE x t e):=by
 unfold Zp rE;simp only[Fp,PJ,aaa]
 grind
noncomputable def NG(t:GTable) (e:List GEnum) (i:Nat):Option (Int×Int):=
 match t.Rows[i]? with
 |some x=>if rE x t e=true then some ((i:Int),3)else if((t.Rows.take i).any λy=>av y x)=true then some ((i:Int),11)else none
 |none=>none
noncomputable def Io(t:GTable) (e:List GEnum):Int×Int:=
 if 64<t.Rows.length then(64,4)else if(ja t.Key e&&ja t.Value e)=false then(-1,8)else(ff (NG t e) t.Rows.length).getD (0,0)
theorem vJ{l:List GRow}{x:GRow}(hl:l.length<4611686018427387904):∃p,me l (λy=>ld y x)=some p/\p.2=l.any λy=>av y x:=by
 have hl1:fa (fe l (λy=>ld y x)) 0=some (Vb () (ff (λi=>if(l[i]?.any λy=>av y x)=true then some ((i:Int),true)else none) l.length)):=
  Kb (λi=>(i:Int)) _ l.length () (λi hi _=>by
   unfold fe;rw[if_pos (by omega),Ba hi,caa hi]
   grind[ld,lC,QA,xa]) (λ_=>by grind[fe])
 unfold me;rw[hl1,←Wk (q:=λy=>av y x) (g:=λi=>((i:Int),true)),aaa]
 cases h:ff (λi=>if(l[i]?.any λy=>av y x)=true then some ((i:Int),true)else none) l.length with
 |none=>exact⟨_,rfl,rfl⟩
 |some v=>
  obtain⟨k,h1,h2,-⟩:=Ta.1 h;refine⟨_,rfl,?_⟩
  grind
theorem PA(t:GTable) (e:List GEnum):pj t e=some (Io t e):=by
 unfold pj Io;by_cases h64:64<t.Rows.length
 .grind
 .rw[if_neg (by omega),if_neg h64];simp only[Na,Pl,aaa];have hl:fa (qi t (oh t.Key e) (oh t.Value e)) 0=some (Vb () (ff (NG t e) t.Rows.length)):=
   Kb (λi=>(i:Int)) _ t.Rows.length () (λi hi _=>by
    unfold qi NG;rw[if_pos (by omega),Ba hi,caa hi];simp only[aaa,Tn];rw[bt (by omega),xa (by omega)];obtain⟨p,hp,hp2⟩:=vJ (l:=t.Rows.take i) (x:=t.Rows[i]) (by grind)
    grind[rE,RZ,lC]) (λ_=>by grind[qi])
  rw[hl];cases ja t.Key e<;>cases ja t.Value e<;>simp only[haa,if_false,if_true,aaa,gac,xab,Sac,Uaa,Rac,saa];cases ff (NG t e) t.Rows.length<;>rfl
theorem EA(t:GTable) (e:List GEnum):Al t e=some (Io t e):=by
 unfold Al Io;by_cases h64:64<t.Rows.length
 .grind
 .rw[if_neg (by omega),if_neg h64];simp only[Oa,aaa];have hl:fa (Vh t e) 0=some (Vb () (ff (NG t e) t.Rows.length)):=
   Kb (λi=>(i:Int)) _ t.Rows.length () (λi hi _=>by
    have hl2:fa (Uh t (i:Int) t.Rows[i]) 0=some (Vb () (ff (λk=>if((t.Rows.take i)[k]?.any λy=>av y t.Rows[i])=true then some (Ex.ret ((i:Int),11))else none) (t.Rows.take i).length)):=
     Kb (λi=>(i:Int)) _ (t.Rows.take i).length () (λk hk _=>by
      have hk':k<i:=by grind
      unfold Uh;rw[if_pos (by omega),Ba (by omega),caa hk]
      grind[lC,FA,xa]) (λ_=>by
       grind[Uh])
    unfold Vh NG;rw[if_pos (by omega),Ba hi,caa hi];simp only[aaa,OE,hl2];rw[xa (by omega),←Wk (q:=λy=>av y t.Rows[i]) (g:=λk=>(Ex.ret ((i:Int),11):Ex Int Unit (Int×Int)))];cases rE t.Rows[i] t e
    .simp only[haa,if_false]
     cases h:ff (λk=>if((t.Rows.take i)[k]?.any λy=>av y t.Rows[i])=true then some (Ex.ret ((i:Int),11):Ex Int Unit (Int×Int))else none) (t.Rows.take i).length with
     |none=>rfl
     |some v=>
      obtain⟨k,h1,h2,-⟩:=Ta.1 h;split at h2
      .injection h2 with h2;subst h2;rfl
      simp_all
    .rfl) (λ_=>by grind[Vh])
  rw[hl];cases ja t.Key e<;>cases ja t.Value e<;>simp only[haa,if_false,if_true,aaa,gac,xab,Sac,Uaa,Rac,saa];cases ff (NG t e) t.Rows.length<;>rfl
def pb(op:Int):Int:=
 if(1<=op/\op<=9)\/(35<=op/\op<=39)then 0
 else if op=10\/op=25\/(31<=op/\op<=34)then 1
 else if op=26 then 3
 else if 11<=op/\op<=30 then 2 else -1
theorem Iz{op:Int}(h:1<=op/\op<=39):op=1\/op=2\/op=3\/op=4\/op=5\/op=6\/op=7\/op=8\/op=9\/op=10\/op=11\/op=12\/op=13\/op=14\/op=15\/op=16\/op=17\/op=18\/op=19\/op=20\/op=21\/op=22\/op=23\/op=24\/op=25\/op=26\/op=27\/op=28\/op=29\/op=30\/op=31\/op=32\/op=33\/op=34\/op=35\/op=36\/op=37\/op=38\/op=39:=by omega
theorem Dw{op:Int}(h:¬(1<=op/\op<=39)):pb op = -1:=by
 grind[pb]
theorem fg(op:Int):Hg op=some (pb op):=by
 by_cases h:1<=op/\op<=39
 .rcases Iz h with h|h|h|h|h|h|h|h|h|h|h|h|h|h|h|h|h|h|h|h|h|h|h|h|h|h|h|h|h|h|h|h|h|h|h|h|h|h|h<;>subst h<;>simp[Hg,pb]
 .rw[Dw h];unfold Hg;have hn:∀k:Int,1<=k->k<=39->¬op=k:=λk h1 h2 he=>h (by omega);simp[hn]
theorem Gp(op:Int):sj op=some (pb op):=by
 grind[sj,pb]
def cc(op:Int):Bool:=decide ((1<=op/\op<=8)\/(14<=op/\op<=16)\/(33<=op/\op<=34)\/(36<=op/\op<=39))
theorem Ha{op:Int}(h:1<=op/\op<=39):Vk op=some (cc op):=by
 rcases Iz h with h|h|h|h|h|h|h|h|h|h|h|h|h|h|h|h|h|h|h|h|h|h|h|h|h|h|h|h|h|h|h|h|h|h|h|h|h|h|h<;>subst h<;>simp[Vk,cc]
theorem Qb{op:Int}(h:1<=op/\op<=39):uk op=some (cc op):=by
 rcases Iz h with h|h|h|h|h|h|h|h|h|h|h|h|h|h|h|h|h|h|h|h|h|h|h|h|h|h|h|h|h|h|h|h|h|h|h|h|h|h|h<;>subst h<;>simp[uk,cc]
def ju(k:Int):Bool:=k==2 || k==3 || k==4
theorem qh(k:Int):Ve k=some (ju k):=by
 grind[Ve,ju]
theorem Lr(k:Int):Th k=some (ju k):=by
 grind[Th,ju]
theorem rv(k:Int):og k=some (ju k || k==5):=by
 grind[og,Lr]
noncomputable def Ra(n:GNode) (ops:List GType) (s:GSignature):Option (GType×Int):=
 baa (α:=Bool) (if¬n.N=0 then(Vk n.Op).bind λx=>some (!x)else some false) λj=>if j=true then some ((GType.mk 0 0),2)else ra n ops s
def xb(n:GNode):Prop:=-9223372036854775808<=n.N/\n.N<=9223372036854775807
theorem XG{n:Int}{k:Int}(hk:1<=k) (h:-9223372036854775808<=n/\n<=9223372036854775807):ea .i64 (Baa n k)=Baa n k:=by
 have h1:(Baa n k).natAbs<=n.natAbs:=by
  rw[lad];exact Nat.div_le_self _ _
 by_cases hn:n = -9223372036854775808
 .by_cases hk1:k=1
  .subst hk1;subst hn;rfl
  .have:(Baa n k).natAbs<n.natAbs:=by
    rw[lad];exact Nat.div_lt_self (by omega) (by omega)
   grind[wid]
 grind[wid]
end Go.Proofs.Dev
set_option maxHeartbeats 1000000
namespace Go.Proofs.Dev
open Go Go.Tm
theorem fA{t:GType}{e:List GEnum}(h:ja t e=true) (hk:t.Kind≠6):t.Enum=0:=by
 simp_all[ja]
theorem mK{k:Int}{e:List GEnum}(h1:1<=k) (h2:k<=5):ja ⟨k,0⟩ e=true:=by
 grind[ja]
theorem cC{e:List GEnum}:ja ⟨1,0⟩ e=true:=mK (by omega) (by omega)
theorem eA{e:List GEnum}:ja ⟨2,0⟩ e=true:=mK (by omega) (by omega)
theorem II{e:List GEnum}:ja ⟨3,0⟩ e=true:=mK (by omega) (by omega)
theorem tR{e:List GEnum}:ja ⟨4,0⟩ e=true:=mK (by omega) (by omega)
theorem F8{e:List GEnum}:ja ⟨5,0⟩ e=true:=mK (by omega) (by omega)
def gA(n:GNode) (ops:List GType) (s:GSignature):Prop:=
 Ra n ops s=Ua n ops s/\∃r,Ua n ops s=some r/\(r.2=0->ja r.1 s.Enums=true)
theorem GP{n:GNode}{s:GSignature}{k:Int}(hk:1<=k/\k<=5) (hn:n.Op=k):gA n [] s:=by
 have hu:=Ha (op:=n.Op) (by omega);have hm:=Qb (op:=n.Op) (by omega);have hus:cc n.Op=true:=by grind[cc]
 have hv:ja ⟨n.Op,0⟩ s.Enums=true:=mK (by omega) (by omega);have hR:Ua n [] s=some (if(oh ⟨n.Op,0⟩ s.Enums).1<=n.N/\n.N<=(oh ⟨n.Op,0⟩ s.Enums).2 then(⟨n.Op,0⟩,0)else(⟨0,0⟩,3)):=by
  unfold Ua gb bc xi ub;simp only[xl,hm,hus,aaa];have h6:¬n.Op=6:=by omega
  have h7:¬n.Op=7:=by omega
  have h8:¬n.Op=8:=by omega
  have h9:¬n.Op=9:=by omega
  have h33:¬n.Op=33:=by omega
  have h34:¬n.Op=34:=by omega
  have h35:¬n.Op=35:=by omega
  have h36:¬n.Op=36:=by omega
  have h37:¬n.Op=37:=by omega
  have h38:¬n.Op=38:=by omega
  have h39:¬n.Op=39:=by omega
  have hin:(if n.Op=1 then some true else if n.Op=2 then some true else if n.Op=3 then some true else if n.Op=4 then some true else some (n.Op==5))=some true:=by
   rcases(by omega:n.Op=1\/n.Op=2\/n.Op=3\/n.Op=4\/n.Op=5)with h|h|h|h|h<;>simp[h]
  simp only[hin,h6,h7,h8,h9,h33,h34,h35,h36,h37,h38,h39,Oa,hv,aaa,if_true,if_false,ew]
  grind
 have hI:Ra n [] s=some (if(oh ⟨n.Op,0⟩ s.Enums).1<=n.N/\n.N<=(oh ⟨n.Op,0⟩ s.Enums).2 then(⟨n.Op,0⟩,0)else(⟨0,0⟩,3)):=by
  grind[Mc,oh,ra,Ra,Pl]
 refine⟨by simp_all,_,hR,?_⟩
 grind
theorem Zt{N:Int}:(if¬N=0 then(some true).bind λx=>some (!x)else some false)=some false:=by simp
theorem gB{N:Int}:(if¬N=0 then(some false).bind λx=>some (!x)else some false)=some (!(N==0)):=by
 grind
theorem Ds{α:Type}{x:α}{Q:α->Prop}:(∃r,some x=some r/\Q r)=Q x:=by simp
theorem Qs{α:Type}{l:List α}{N:Int}(d:α) (h0:0<=N) (h1:N<(l.length:Int)):idx l N=some ((l[N.toNat]?).getD d):=by
 grind[Di]
theorem LY{N:Int}{s:GSignature}(hN:xb ⟨6,N⟩):gA ⟨6,N⟩ [] s:=by
 have w:=XG (n:=N) (k:=16) (by omega) hN;have hu:=Ha (op:=6) (by omega);have hm:=Qb (op:=6) (by omega);have hus:cc 6=true:=rfl;unfold gA Ra ra Gm Ua gb bc xi;simp only[w,hu,hm,hus,Oa,Zt];by_cases h0:0<=N
 .have hd:0<=Baa N 16:=xac h0 (by omega);by_cases h1:Baa N 16<(s.Enums.length:Int)
  .rw[Qs ⟨wac,[]⟩ hd h1];have hv:ja ⟨6,Baa N 16⟩ s.Enums=true:=by grind[ja]
   generalize (s.Enums[(Baa N 16).toNat]?).getD ⟨wac,[]⟩=m;have e1:¬N<0:=by omega
   have e2:¬(s.Enums.length:Int)<=Baa N 16:=by omega
   by_cases h2:Jaa N 16<(m.Members.length:Int)
   .have e3:¬(m.Members.length:Int)<=Jaa N 16:=by omega
    simp[h0,h1,h2,hv,e1,e2,e3,Ds,-Prod.exists]
   grind
  grind
 simp_all
theorem MY{N:Int}{s:GSignature}:gA ⟨7,N⟩ [] s:=by
 have hu:=Ha (op:=7) (by omega);have hm:=Qb (op:=7) (by omega);have hus:cc 7=true:=rfl;unfold gA Ra ra Ob Ua gb bc xi;simp only[hu,hm,hus,Oa,Na,Zt];by_cases h0:0<=N
 .have e1:¬N<0:=by omega
  by_cases h1:N<(s.Inputs.length:Int)
  .rw[Qs ⟨0,0⟩ h0 h1];generalize (s.Inputs[N.toNat]?).getD ⟨0,0⟩=t;obtain⟨tk,te⟩:=t;have e2:¬(s.Inputs.length:Int)<=N:=by omega
   cases hv:ja ⟨tk,te⟩ s.Enums<;>simp[h0,h1,hv,e1,e2,Ds,-Prod.exists]
  simp_all
 grind
theorem NY{N:Int}{s:GSignature}:gA ⟨8,N⟩ [] s:=by
 have hu:=Ha (op:=8) (by omega);have hm:=Qb (op:=8) (by omega);have hus:cc 8=true:=rfl;unfold gA Ra ra Ob Ua gb bc xi;simp only[hu,hm,hus,Oa,Na,Zt];by_cases h0:0<=N
 .have e1:¬N<0:=by omega
  by_cases h1:N<(s.Defs.length:Int)
  .rw[Qs ⟨0,0⟩ h0 h1];generalize (s.Defs[N.toNat]?).getD ⟨0,0⟩=t;obtain⟨tk,te⟩:=t;have e2:¬(s.Defs.length:Int)<=N:=by omega
   cases hv:ja ⟨tk,te⟩ s.Enums<;>simp[h0,h1,hv,e1,e2,Ds,-Prod.exists]
  simp_all
 grind
theorem OY{N:Int}{s:GSignature}:gA ⟨9,N⟩ [] s:=by
 have hu:=Ha (op:=9) (by omega);have hm:=Qb (op:=9) (by omega);have hus:cc 9=false:=rfl;unfold gA Ra ra Ua gb bc xi ub;simp only[hu,hm,hus,Oa,gB];cases N==0<;>simp[F8,Ds,-Prod.exists]
theorem KT{N:Int}{s:GSignature}:gA ⟨35,N⟩ [] s:=by
 have hu:=Ha (op:=35) (by omega);have hm:=Qb (op:=35) (by omega);have hus:cc 35=false:=rfl;unfold gA Ra ra Pf Ua gb bc xi ub;simp only[hu,hm,hus,Oa,gB];cases hm:s.HasMembers<;>cases N==0<;>simp[hm,eA,Ds,-Prod.exists]
theorem HP{op N:Int}{s:GSignature}(h:36<=op/\op<=39):gA ⟨op,N⟩ [] s:=by
 have hu:=Ha (op:=op) (by omega);have hm:=Qb (op:=op) (by omega);have hus:cc op=true:=by grind[cc]
 unfold gA Ra ra Pf Ob Ua gb bc xi;simp only[hu,hm,hus,Oa,Na,qh,rv,Zt];cases hM:s.HasMembers
 .rcases(by omega:op=36\/op=37\/op=38\/op=39)with h|h|h|h<;>subst h<;>simp[hM,Ds,-Prod.exists]
 .by_cases h0:0<=N
  .have e1:¬N<0:=by omega
   by_cases h1:N<(s.MemberDefs.length:Int)
   .rw[Qs ⟨0,0⟩ h0 h1];generalize (s.MemberDefs[N.toNat]?).getD ⟨0,0⟩=t;obtain⟨tk,te⟩:=t;have e2:¬(s.MemberDefs.length:Int)<=N:=by omega
    cases hv:ja ⟨tk,te⟩ s.Enums
    .rcases(by omega:op=36\/op=37\/op=38\/op=39)with h|h|h|h<;>subst h<;>simp[hM,h0,h1,hv,e1,e2,Ds,-Prod.exists]
    .rcases(by omega:op=36\/op=37\/op=38\/op=39)with h|h|h|h<;>subst h<;>simp only[hM,h0,h1,hv,e1,e2,aaa,if_true,if_false,not_true_eq_false,not_false_eq_true,decide_false,decide_true,haa,saa,maa,beq_self_eq_true,kaa]
     .by_cases k2:tk=2<;>by_cases k3:tk=3<;>simp[k2,k3,hv,Ds,-Prod.exists]<;>simp_all
     all_goals grind
   .have e2:(s.MemberDefs.length:Int)<=N:=by omega
    rcases(by omega:op=36\/op=37\/op=38\/op=39)with h|h|h|h<;>subst h<;>simp[hM,h0,h1,e1,e2,Ds,-Prod.exists]
  .have e1:N<0:=by omega
   rcases(by omega:op=36\/op=37\/op=38\/op=39)with h|h|h|h<;>subst h<;>simp[hM,h0,e1,Ds,-Prod.exists]
theorem wg{α:Type}{x:α}{l:List α}:idx (x::l) 0=some x:=rfl
theorem mD{α:Type}{x y:α}{l:List α}:idx (x::y::l) 1=some y:=rfl
theorem jY{α:Type}{x y z:α}{l:List α}:idx (x::y::z::l) 2=some z:=rfl
theorem IP{op N:Int}{s:GSignature}{a:GType}(hop:op=10\/op=25\/op=31\/op=32) (ha:ja a s.Enums=true):gA ⟨op,N⟩ [a] s:=by
 have hu:=Ha (op:=op) (by omega);have hm:=Qb (op:=op) (by omega);have hus:cc op=false:=by grind[cc]
 unfold gA Ra ra Fa Ua gb bc Cj ub;simp only[hu,hm,hus,gB,qh,Lr];obtain⟨ak,ae⟩:=a;rcases hop with h|h|h|h<;>subst h<;>cases N==0
 .simp
 .cases hn:ju ak<;>simp[wg,hn,ha,Ds,-Prod.exists]
 .simp
 .by_cases k1:ak=1
  .subst k1;have:=fA ha (by simp)
   simp_all[wg]
  simp_all[wg]
 .simp
 .by_cases k1:ak=5<;>simp[wg,k1,eA,Ds,-Prod.exists]
 .simp
 .by_cases k1:ak=5<;>simp[wg,k1,eA,Ds,-Prod.exists]
theorem IT{N:Int}{s:GSignature}{a:GType}(ha:ja a s.Enums=true):gA ⟨33,N⟩ [a] s:=by
 have hu:=Ha (op:=33) (by omega);have hm:=Qb (op:=33) (by omega);have hus:cc 33=true:=rfl;unfold gA Ra ra Jg Ua gb bc Cj;simp only[hu,hm,hus,Oa,Na,Zt];by_cases h0:0<=N
 .have e1:¬N<0:=by omega
  by_cases h1:N<(s.Tables.length:Int)
  .obtain⟨t,ht⟩:∃t,idx s.Tables N=some t:=⟨_,Di h0 h1⟩;have e2:¬(s.Tables.length:Int)<=N:=by omega
   cases hk:ja t.Key s.Enums
   .simp[wg,ht,h0,h1,e1,e2,hk,Ds,-Prod.exists]
   .cases hv:ja t.Value s.Enums
    .simp[wg,ht,h0,h1,e1,e2,hk,hv,Ds,-Prod.exists]
    .by_cases k1:a.Kind=t.Key.Kind<;>by_cases k2:a.Enum=t.Key.Enum<;>simp[wg,ht,h0,h1,e1,e2,hk,hv,k1,k2,Ds,-Prod.exists]
  simp_all[wg]
 .have e1:N<0:=by omega
  have e3:¬N<(s.Tables.length:Int)\/N<(s.Tables.length:Int):=by omega
  simp[wg,h0,e1,Ds,-Prod.exists]
theorem JT{N:Int}{s:GSignature}{a:GType}(hN:xb ⟨34,N⟩) (ha:ja a s.Enums=true):gA ⟨34,N⟩ [a] s:=by
 have hu:=Ha (op:=34) (by omega);have hm:=Qb (op:=34) (by omega);have hus:cc 34=true:=rfl;have w:=XG (n:=N) (k:=8) (by omega) hN;unfold gA Ra ra Jg cf Ua gb bc Cj ub;simp only[hu,hm,hus,Oa,Na,Zt,w];by_cases h0:0<=N
 .have e1:¬N<0:=by omega
  have hd:0<=Baa N 8:=xac h0 (by omega);have hmod:0<=Jaa N 8:=mad _ h0;have e3:¬Baa N 8<0:=by omega
  by_cases h5:Jaa N 8<=5
  .by_cases h1:Baa N 8<(s.Tables.length:Int)
   .obtain⟨t,ht⟩:∃t,idx s.Tables (Baa N 8)=some t:=⟨_,Di hd h1⟩;have e2:¬(s.Tables.length:Int)<=Baa N 8:=by omega
    obtain⟨_,⟨kk,ke⟩,⟨vk,ve⟩,_⟩:=t;obtain⟨ak,ae⟩:=a;simp only[wg,ht,h0,h1,e1,e2,e3,hmod,h5,aaa,if_true,if_false,not_true_eq_false,not_false_eq_true,decide_false,decide_true,haa,saa,maa,beq_self_eq_true,kaa,xab,gac];by_cases hk3:kk=3
    .subst hk3;by_cases hke:ke=0
     .subst hke;rw[show ja ⟨3,0⟩ s.Enums=true from II];by_cases hv4:vk=4
      .subst hv4
       grind[ja]
      grind[ja]
     simp_all[ja]
    .cases ja ⟨kk,ke⟩ s.Enums<;>cases ja ⟨vk,ve⟩ s.Enums<;>by_cases ha3:ak=3<;>by_cases hak:ak=kk<;>by_cases hae:ae=ke<;>simp_all[Ds,-Prod.exists]
   simp_all[wg]
  simp_all[wg]
 .have e1:N<0:=by omega
  simp[wg,h0,e1,Ds,-Prod.exists]
theorem HT{N:Int}{s:GSignature}{a b c:GType}(hb:ja b s.Enums=true):gA ⟨26,N⟩ [a,b,c] s:=by
 have hu:=Ha (op:=26) (by omega);have hm:=Qb (op:=26) (by omega);have hus:cc 26=false:=rfl;unfold gA Ra ra Fa Ua gb bc;simp only[hu,hm,hus,gB];obtain⟨bk,be⟩:=b;cases N==0
 .simp
 .by_cases k1:a.Kind=1<;>by_cases k2:bk=c.Kind<;>by_cases k3:be=c.Enum<;>simp[wg,mD,jY,k1,k2,k3,Ds,-Prod.exists]
  simp_all
theorem res2{op N:Int}{s:GSignature}{a b:GType}{u:Bool}(hm:uk op=some u) (hr:gb ⟨op,N⟩ s=some true) (hf:bc ⟨op,N⟩ s=some true) {t:GType}{ok:Bool}
 (hd:Rh op a b=some (t,ok)) (hu:u=true\/N=0):Ua ⟨op,N⟩ [a,b] s=some (if ok=true then(t,0)else(⟨0,0⟩,8)):=by
 unfold Ua;simp only[hm,hr,hf,wg,mD];rcases hu with rfl|rfl<;>cases ok<;>simp[hd]
theorem K2{op N:Int}{s:GSignature}{a b:GType}{u:Bool}(hm:Vk op=some u) (h1:ra ⟨op,N⟩ [a,b] s=(Fa op [a,b]).bind λx=>if x.2=false then some (⟨0,0⟩,8)else some (x.1,0)) {t:GType}{ok:Bool}
 (hd:Fa op [a,b]=some (t,ok)) (hu:u=true\/N=0):Ra ⟨op,N⟩ [a,b] s=some (if ok=true then(t,0)else(⟨0,0⟩,8)):=by
 unfold Ra
 grind
theorem LZ{op N:Int}{s:GSignature}{a b:GType}(hop:(11<=op/\op<=24)\/(27<=op/\op<=30)) {t:GType}{ok:Bool}{t':GType}(hI:Fa op [a,b]=some (t',ok)) (hR:Rh op a b=some (t,ok)) (ht:ok=true->t'=t/\ja t s.Enums=true) :
 gA ⟨op,N⟩ [a,b] s:=by
 have hu:=Ha (op:=op) (by omega);have hm:=Qb (op:=op) (by omega);have hr:(14<=op/\op<=16)/\gb ⟨op,N⟩ s=some (decide (0<=N)&&decide (N<=5))/\ra ⟨op,N⟩ [a,b] s=(if(decide (0<=N)&&decide (N<=5))=true then(Fa op [a,b]).bind λx=>if x.2=false then some (⟨0,0⟩,8)else some (x.1,0)else some (⟨0,0⟩,3))\/
  ¬(14<=op/\op<=16)/\gb ⟨op,N⟩ s=some true/\ra ⟨op,N⟩ [a,b] s=((Fa op [a,b]).bind λx=>if x.2=false then some (⟨0,0⟩,8)else some (x.1,0)):=by
  clear hI hR ht hu hm;by_cases h:14<=op/\op<=16
  .refine .inl ⟨h,?_,?_⟩
   .grind[gb]
   .unfold ra cf;simp only[ew];rcases(by omega:op=14\/op=15\/op=16)with h|h|h<;>subst h<;>by_cases g1:0<=N<;>by_cases g2:N<=5<;>simp[g1,g2]
  .refine .inr ⟨h,?_,?_⟩
   .unfold gb;rcases(by omega:op=11\/op=12\/op=13\/op=17\/op=18\/op=19\/op=20\/op=21\/op=22\/op=23\/op=24\/op=27\/op=28\/op=29\/op=30)with h|h|h|h|h|h|h|h|h|h|h|h|h|h|h<;>subst h<;>simp
   .unfold ra;rcases(by omega:op=11\/op=12\/op=13\/op=17\/op=18\/op=19\/op=20\/op=21\/op=22\/op=23\/op=24\/op=27\/op=28\/op=29\/op=30)with h|h|h|h|h|h|h|h|h|h|h|h|h|h|h<;>subst h<;>simp
 have hf:bc ⟨op,N⟩ s=some true:=by
  unfold bc;rcases(by omega:op=11\/op=12\/op=13\/op=14\/op=15\/op=16\/op=17\/op=18\/op=19\/op=20\/op=21\/op=22\/op=23\/op=24\/op=27\/op=28\/op=29\/op=30)with h|h|h|h|h|h|h|h|h|h|h|h|h|h|h|h|h|h<;>subst h<;>simp
 have fin:∀(hz:cc op=true\/N=0),gb ⟨op,N⟩ s=some true->ra ⟨op,N⟩ [a,b] s=((Fa op [a,b]).bind λx=>if x.2=false then some (⟨0,0⟩,8)else some (x.1,0))->gA ⟨op,N⟩ [a,b] s:=by
  intro hz h1 h2;unfold gA;rw[res2 hm h1 hf hR hz,K2 hu h2 hI hz]
  grind
 rcases hr with⟨h,h1,h2⟩|⟨h,h1,h2⟩
 .have hus:cc op=true:=by grind[cc]
  by_cases hN:(decide (0<=N)&&decide (N<=5))=true
  .simp_all
  .rw[had]at hN;rw[hN]at h1;rw[hN,if_neg (by simp)]at h2;unfold gA Ra Ua
   simp_all
 .have hus:cc op=false:=by grind[cc]
  by_cases hN:N=0
  .simp_all
  .unfold gA Ra Ua
   simp_all
theorem JP{op N:Int}{s:GSignature}{a b:GType}(hop:(11<=op/\op<=24)\/(27<=op/\op<=30)) (ha:ja a s.Enums=true):gA ⟨op,N⟩ [a,b] s:=by
 have hz:∀k,1<=k->k<=5->a.Kind=k->a.Enum=0:=λk h1 h2 h=>fA ha (by omega);obtain⟨ak,ae⟩:=a;obtain⟨bk,be⟩:=b;simp only at hz;have hr:∃t t' ok,Fa op [⟨ak,ae⟩,⟨bk,be⟩]=some (t',ok)/\Rh op ⟨ak,ae⟩ ⟨bk,be⟩=some (t,ok)/\(ok=true->t'=t/\ja t s.Enums=true):=by
  unfold Fa Rh vg oo ub;simp only[wg,mD,qh,Lr,rv];rcases(by omega:op=11\/op=12\/op=13\/op=14\/op=15\/op=16\/op=17\/op=18\/op=19\/op=20\/op=21\/op=22\/op=23\/op=24\/op=27\/op=28\/op=29\/op=30)with h|h|h|h|h|h|h|h|h|h|h|h|h|h|h|h|h|h<;>subst h
  .by_cases k1:ak=bk/\ae=be
   .cases hn:ju ak<;>simp[k1,hn,ha]
    all_goals grind
   .simp[k1]
  .by_cases k1:ak=bk/\ae=be
   .cases hn:ju ak<;>simp[k1,hn,ha]
    all_goals grind
   .simp[k1]
  .by_cases k1:bk=2<;>by_cases k2:ak=2<;>by_cases k3:ak=3<;>simp[k1,k2,k3,eA,II]
  .by_cases k1:bk=4<;>by_cases k2:ak=3<;>by_cases k3:ak=4<;>simp[k1,k2,k3,tR,II]
  .by_cases k1:bk=2<;>by_cases k2:ak=2<;>by_cases k3:ak=3<;>by_cases k4:bk=3<;>simp[k1,k2,k3,k4,eA,II,tR]
   all_goals simp_all
  .by_cases k1:ak=3<;>by_cases k2:bk=3<;>simp[k1,k2]
   simp_all
  .by_cases k1:ak=bk/\ae=be
   .cases hn:ju ak<;>by_cases k5:ak=5<;>simp[k1,hn,k5,ha]
    all_goals grind
   .simp[k1]
  .by_cases k1:ak=bk/\ae=be
   .cases hn:ju ak<;>by_cases k5:ak=5<;>simp[k1,hn,k5,ha]
    all_goals grind
   .simp[k1]
  .by_cases k1:ak=bk<;>by_cases k2:ae=be<;>simp[k1,k2,cC]
  .by_cases k1:ak=bk<;>by_cases k2:ae=be<;>simp[k1,k2,cC]
  .by_cases k1:ak=bk/\ae=be
   .cases hn:ju ak<;>by_cases k5:ak=5<;>simp[k1,hn,k5,cC]
    all_goals grind[cC]
   .simp[k1]
  .by_cases k1:ak=bk/\ae=be
   .cases hn:ju ak<;>by_cases k5:ak=5<;>simp[k1,hn,k5,cC]
    all_goals grind[cC]
   .simp[k1]
  .by_cases k1:ak=1<;>by_cases k2:bk=1<;>simp[k1,k2]
   grind
  .by_cases k1:ak=1<;>by_cases k2:bk=1<;>simp[k1,k2]
   grind
  .by_cases k1:ak=5<;>by_cases k2:bk=2<;>simp[k1,k2]
   simp_all
  .by_cases k1:ak=5<;>by_cases k2:bk=2<;>simp[k1,k2]
   simp_all
  .by_cases k1:ak=5<;>by_cases k2:bk=5<;>simp[k1,k2,eA]
  .by_cases k1:ak=5<;>by_cases k2:bk=5<;>simp[k1,k2,eA]
 obtain⟨t,t',ok,h1,h2,h3⟩:=hr
 grind[LZ]
theorem NT{n:GNode}{ops:List GType}{s:GSignature}(hop:1<=n.Op/\n.Op<=39) (hN:xb n) (hlen:(ops.length:Int)=pb n.Op) (hv:∀t∈ops,ja t s.Enums=true):gA n ops s:=by
 obtain⟨op,N⟩:=n;simp only at hop hlen;unfold pb at hlen;by_cases h0:(1<=op/\op<=9)\/(35<=op/\op<=39)
 .rw[if_pos h0]at hlen;obtain rfl:ops=[]:=zaa (by omega);rcases(by omega:(1<=op/\op<=5)\/op=6\/op=7\/op=8\/op=9\/op=35\/(36<=op/\op<=39))with h|h|h|h|h|h|h
  .exact GP h rfl
  all_goals grind[LY,MY,NY,OY,KT,HP]
 rw[if_neg h0]at hlen;by_cases h1:op=10\/op=25\/(31<=op/\op<=34)
 .rw[if_pos h1]at hlen;obtain⟨a,rfl⟩:∃a,ops=[a]:=by
   match ops,hlen with
   |[a],_=>simp
  have ha:=hv a (by simp);rcases(by omega:(op=10\/op=25\/op=31\/op=32)\/op=33\/op=34)with h|h|h
  all_goals grind[IP,IT,JT]
 rw[if_neg h1]at hlen;by_cases h2:op=26
 .rw[if_pos h2]at hlen;obtain⟨a,b,c,rfl⟩:∃a b c,ops=[a,b,c]:=by
   match ops,hlen with
   |[a,b,c],_=>simp
  grind[HT]
 rw[if_neg h2,if_pos (by omega)]at hlen;obtain⟨a,b,rfl⟩:∃a b,ops=[a,b]:=by
  match ops,hlen with
  |[a,b],_=>simp
 grind[JP]
def ua(e:List GNode) (i:Nat):GNode:=(e[i]?).getD ⟨0,0⟩
theorem Zd{e:List GNode}{i:Nat}(h:i<e.length):e[i]=ua e i:=by
 grind[ua]
def Se(e:List GNode):Nat->List Int×List Int
 |0=>([],[])
 |i+1=>
  let p:=Se e i
  let a:=(pb (ua e i).Op).toNat
  let f:=if 0<a then(p.2[p.2.length-a]?).getD 0 else(i:Int)
  (p.1++[f],p.2.take (p.2.length-a)++[f])
theorem Yz(e:List GNode):∀i,(Se e i).1.length=i
 |0=>rfl
 |i+1=>by simp[Se,Yz e i]
def fv(e:List GNode) (i:Nat):Option (List Int×Int×Int):=
 if pb (ua e i).Op<0 then some ([],(i:Int),2)
 else if((Se e i).2.length:Int)<pb (ua e i).Op then some ([],(i:Int),5)
 else if 12<(Se e (i+1)).2.length then some ([],(i:Int),16)else none
def xm(e:List GNode):List Int×Int×Int:=
 if 48<e.length then([],0,4)else if e.length=0 then([],0,5)
 else match ff (fv e) e.length with
  |some v=>v
  |none=>if 1<(Se e e.length).2.length then([],(e.length:Int),4)else((Se e e.length).1,0,0)
theorem Jn{e:List GNode}{i:Nat}(h:∀j,j<i->fv e j=none):(Se e i).2.length<=12:=by
 cases i with
 |zero=>simp[Se]
 |succ i=>
  have:=h i (by omega)
  grind[fv]
theorem MU{p:List Int}{i n:Nat}{f:Int}(hp:p.length=i) (h:i<n):(p++gaa (n-i) 0).set i f=p++[f]++gaa (n-(i+1)) 0:=by
 obtain⟨k,hk⟩:∃k,n-i=k+1:=⟨n-i-1,by omega⟩;have hk':n-(i+1)=k:=by omega
 simp_all[List.replicate_succ]
theorem BK{p r:List Int}{i:Nat}{f:Int}(hp:p.length=i):(p++[f]++r)[i]?=some f:=by
 simp_all
theorem Qi(e:List GNode):Oi e=some (xm e):=by
 unfold Oi xm;by_cases h48:48<e.length
 .grind
 rw[if_neg (by omega),if_neg h48];by_cases h0:e.length=0
 .simp_all
 rw[if_neg (by omega),if_neg h0,UB (by omega) (by omega),aaa];have hl:fa (Hh e) (gaa e.length 0,([]:List Int),0)=some (Vb ((Se e e.length).1,(Se e e.length).2) (ff (fv e) e.length)):=by
  refine Kb (λi=>((Se e i).1++gaa (e.length-i) 0,(Se e i).2,(i:Int))) (fv e) e.length _ (λi hi hf=>?_) (λ_=>?_) ?_
  .have hs:=Jn hf;have hl:=Yz e i;unfold Hh fv;simp only;rw[if_pos (by omega),Ba hi,aaa,Zd hi,fg,aaa];by_cases ha:pb (ua e i).Op<0
   .rw[if_pos ha,if_pos ha];rfl
   rw[if_neg ha,if_neg ha];by_cases hb:((Se e i).2.length:Int)<pb (ua e i).Op
   .rw[if_pos hb,if_pos hb];rfl
   rw[if_neg hb,if_neg hb];obtain⟨a,ha'⟩:∃a:Nat,pb (ua e i).Op=a:=⟨(pb (ua e i).Op).toNat,by omega⟩;have hst:Se e (i+1)=((Se e i).1++[if 0<a then((Se e i).2[(Se e i).2.length-a]?).getD 0 else(i:Int)],(Se e i).2.take ((Se e i).2.length-a)++[if 0<a then((Se e i).2[(Se e i).2.length-a]?).getD 0 else(i:Int)]):=by
    grind[Se]
   have hsub:ea .i64 (((Se e i).2.length:Int)-(a:Int))=(((Se e i).2.length-a:Nat):Int):=by
    grind[wid]
   rw[ha',hst,hsub];generalize hS:(Se e i).2=sk at *;generalize (Se e i).1=st at *;rw[ha']at hb;rw[Ba (i:=i) (by grind),aaa,dw (by grind),aaa,MU hl hi,bt (by omega)];by_cases h0a:0<a
   .have hk:sk.length-a<sk.length:=by omega
    rw[if_pos (by omega),if_pos h0a,Ba hk,aaa,Ba (i:=i) (by simp_all),aaa,dw (by simp_all),aaa];have hset:(st++[(i:Int)]++gaa (e.length-(i+1)) 0).set i sk[sk.length-a]=st++[sk[sk.length-a]]++gaa (e.length-(i+1)) 0:=by
     simp_all
    rw[hset,aaa,aaa,caa hk,Uab,VH,BK hl,aaa];rw[Xe (by grind),aaa];by_cases hd:12<(sk.take (sk.length-a)++[sk[sk.length-a]]).length
    .grind
    .rw[if_neg (by omega),if_neg hd,xa (by omega)];rfl
   .rw[if_neg (by omega),if_neg h0a,aaa,aaa,VH,BK hl,aaa];rw[Xe (by grind),aaa];by_cases hd:12<(sk.take (sk.length-a)++[(i:Int)]).length
    .rw[if_pos (by omega),if_pos hd];rfl
    .rw[if_neg (by omega),if_neg hd,xa (by omega)];rfl
  all_goals grind[Hh,Se]
 grind[Vb]
theorem qo(e:List GNode):Qf e=some (xm e):=by
 unfold Qf xm;by_cases h48:48<e.length
 .grind
 rw[if_neg (by omega),if_neg h48];by_cases h0:e.length=0
 .simp_all
 rw[if_neg (by omega),if_neg h0];have hl:fa (Qg e) (([]:List Int),([]:List Int),0)=some (Vb ((Se e e.length).1,(Se e e.length).2) (ff (fv e) e.length)):=by
  refine Kb (λi=>((Se e i).1,(Se e i).2,(i:Int))) (fv e) e.length _ (λi hi hf=>?_) (λ_=>?_)
  .have hs:=Jn hf;have hl:=Yz e i;unfold Qg fv;simp only;rw[if_pos (by omega),Ba hi,aaa,Zd hi,Gp,aaa];by_cases ha:pb (ua e i).Op<0
   .rw[if_pos ha,if_pos ha];rfl
   rw[if_neg ha,if_neg ha];by_cases hb:((Se e i).2.length:Int)<pb (ua e i).Op
   .rw[if_pos hb,if_pos hb];rfl
   rw[if_neg hb,if_neg hb];obtain⟨a,ha'⟩:∃a:Nat,pb (ua e i).Op=a:=⟨(pb (ua e i).Op).toNat,by omega⟩;have hst:Se e (i+1)=((Se e i).1++[if 0<a then((Se e i).2[(Se e i).2.length-a]?).getD 0 else(i:Int)],(Se e i).2.take ((Se e i).2.length-a)++[if 0<a then((Se e i).2[(Se e i).2.length-a]?).getD 0 else(i:Int)]):=by
    grind[Se]
   have hsub:ea .i64 (((Se e i).2.length:Int)-(a:Int))=(((Se e i).2.length-a:Nat):Int):=by
    grind[wid]
   rw[ha',hst,hsub];generalize hS:(Se e i).2=sk at *;generalize (Se e i).1=st at *;rw[ha']at hb;by_cases h0a:0<a
   .have hk:sk.length-a<sk.length:=by omega
    rw[if_pos (by omega),if_pos h0a,Ba hk,aaa,bt (by omega),aaa,aaa,caa hk,Uab];simp only;rw[Xe (by grind),aaa,Xe (by grind),aaa];by_cases hd:12<(sk.take (sk.length-a)++[sk[sk.length-a]]).length
    .grind
    .rw[if_neg (by omega),if_neg hd,xa (by omega)];rfl
   .have ha0:a=0:=by omega
    subst ha0;rw[if_neg (by omega),if_neg h0a,aaa];simp only[Nat.sub_zero,wab];rw[Xe (by grind),aaa,Xe (by grind),aaa];by_cases hd:12<(sk++[(i:Int)]).length
    .rw[if_pos (by omega),if_pos hd];rfl
    .rw[if_neg (by omega),if_neg hd,xa (by omega)];rfl
  grind[Qg]
 grind[Vb]
def iA(n:GNode) (ops:List GType) (s:GSignature):Prop:=∃r,Ra n ops s=some r/\(r.2=0->ja r.1 s.Enums=true)
theorem CP{n:GNode}{s:GSignature}{k:Int}(hk:1<=k/\k<=5) (hn:n.Op=k):iA n [] s:=by
 have hu:=Ha (op:=n.Op) (by omega);have hus:cc n.Op=true:=by grind[cc]
 have hv:ja ⟨n.Op,0⟩ s.Enums=true:=mK (by omega) (by omega);have hI:Ra n [] s=some (if(oh ⟨n.Op,0⟩ s.Enums).1<=n.N/\n.N<=(oh ⟨n.Op,0⟩ s.Enums).2 then(⟨n.Op,0⟩,0)else(⟨0,0⟩,3)):=by
  grind[Mc,oh,ra,Ra,Pl]
 refine⟨_,hI,?_⟩
 grind
theorem HY{N:Int}{s:GSignature}(hN:xb ⟨6,N⟩):iA ⟨6,N⟩ [] s:=by
 have w:=XG (n:=N) (k:=16) (by omega) hN;have hu:=Ha (op:=6) (by omega);have hus:cc 6=true:=rfl;unfold iA Ra ra Gm;simp only[w,hu,hus,Zt];by_cases h0:0<=N
 .have hd:0<=Baa N 16:=xac h0 (by omega);by_cases h1:Baa N 16<(s.Enums.length:Int)
  .rw[Qs ⟨wac,[]⟩ hd h1];have hv:ja ⟨6,Baa N 16⟩ s.Enums=true:=by grind[ja]
   generalize (s.Enums[(Baa N 16).toNat]?).getD ⟨wac,[]⟩=m;have e1:¬N<0:=by omega
   have e2:¬(s.Enums.length:Int)<=Baa N 16:=by omega
   by_cases h2:Jaa N 16<(m.Members.length:Int)
   .have e3:¬(m.Members.length:Int)<=Jaa N 16:=by omega
    simp[h0,h1,h2,hv,e1,e2,e3,Ds,-Prod.exists]
   .have e3:(m.Members.length:Int)<=Jaa N 16:=by omega
    simp[h0,h1,h2,hv,e1,e2,e3,Ds,-Prod.exists]
  .have e1:¬N<0:=by omega
   have e2:(s.Enums.length:Int)<=Baa N 16:=by omega
   simp[h0,h1,e1,e2,Ds,-Prod.exists]
 simp_all
theorem IY{N:Int}{s:GSignature}:iA ⟨7,N⟩ [] s:=by
 have hu:=Ha (op:=7) (by omega);have hus:cc 7=true:=rfl;unfold iA Ra ra Ob;simp only[hu,hus,Na,Zt];by_cases h0:0<=N
 .have e1:¬N<0:=by omega
  by_cases h1:N<(s.Inputs.length:Int)
  .rw[Qs ⟨0,0⟩ h0 h1];generalize (s.Inputs[N.toNat]?).getD ⟨0,0⟩=t;obtain⟨tk,te⟩:=t;have e2:¬(s.Inputs.length:Int)<=N:=by omega
   cases hv:ja ⟨tk,te⟩ s.Enums<;>simp[h0,h1,hv,e1,e2,Ds,-Prod.exists]
  simp_all
 simp_all
theorem JY{N:Int}{s:GSignature}:iA ⟨8,N⟩ [] s:=by
 have hu:=Ha (op:=8) (by omega);have hus:cc 8=true:=rfl;unfold iA Ra ra Ob;simp only[hu,hus,Na,Zt];by_cases h0:0<=N
 .have e1:¬N<0:=by omega
  by_cases h1:N<(s.Defs.length:Int)
  .rw[Qs ⟨0,0⟩ h0 h1];generalize (s.Defs[N.toNat]?).getD ⟨0,0⟩=t;obtain⟨tk,te⟩:=t;have e2:¬(s.Defs.length:Int)<=N:=by omega
   cases hv:ja ⟨tk,te⟩ s.Enums<;>simp[h0,h1,hv,e1,e2,Ds,-Prod.exists]
  simp_all
 simp_all
theorem KY{N:Int}{s:GSignature}:iA ⟨9,N⟩ [] s:=by
 have hu:=Ha (op:=9) (by omega);have hus:cc 9=false:=rfl;unfold iA Ra ra;simp only[hu,hus,gB];cases N==0<;>simp[F8,Ds,-Prod.exists]
theorem ET{N:Int}{s:GSignature}:iA ⟨35,N⟩ [] s:=by
 have hu:=Ha (op:=35) (by omega);have hus:cc 35=false:=rfl;unfold iA Ra ra Pf;simp only[hu,hus,gB];cases hm:s.HasMembers<;>cases N==0<;>simp[eA,Ds,-Prod.exists]
theorem DP{op N:Int}{s:GSignature}(h:36<=op/\op<=39):iA ⟨op,N⟩ [] s:=by
 have hu:=Ha (op:=op) (by omega);have hus:cc op=true:=by grind[cc]
 unfold iA Ra ra Pf Ob;simp only[hu,hus,Na,qh,Zt];cases hM:s.HasMembers
 .rcases(by omega:op=36\/op=37\/op=38\/op=39)with h|h|h|h<;>subst h<;>simp[hM,Ds,-Prod.exists]
 .by_cases h0:0<=N
  .have e1:¬N<0:=by omega
   by_cases h1:N<(s.MemberDefs.length:Int)
   .rw[Qs ⟨0,0⟩ h0 h1];generalize (s.MemberDefs[N.toNat]?).getD ⟨0,0⟩=t;obtain⟨tk,te⟩:=t;have e2:¬(s.MemberDefs.length:Int)<=N:=by omega
    cases hv:ja ⟨tk,te⟩ s.Enums
    .rcases(by omega:op=36\/op=37\/op=38\/op=39)with h|h|h|h<;>subst h<;>simp[hM,h0,h1,hv,e1,e2,Ds,-Prod.exists]
    .rcases(by omega:op=36\/op=37\/op=38\/op=39)with h|h|h|h<;>subst h<;>simp only[hM,h0,h1,hv,e1,e2,aaa,if_true,if_false,not_true_eq_false,not_false_eq_true,decide_false,decide_true,haa,saa,maa,beq_self_eq_true,kaa]
     .by_cases k2:tk=2<;>by_cases k3:tk=3<;>simp[k2,k3,hv,Ds,-Prod.exists]<;>simp_all
     .by_cases k1:tk=1<;>simp[k1,hv,Ds,-Prod.exists]<;>simp_all
     .by_cases k1:tk=1<;>simp[k1,hv,Ds,-Prod.exists]<;>simp_all
     .cases ju tk<;>by_cases k5:tk=5<;>simp[k5,hv,Ds,-Prod.exists]<;>simp_all
   .have e2:(s.MemberDefs.length:Int)<=N:=by omega
    rcases(by omega:op=36\/op=37\/op=38\/op=39)with h|h|h|h<;>subst h<;>simp[hM,h0,h1,e1,e2,Ds,-Prod.exists]
  .have e1:N<0:=by omega
   rcases(by omega:op=36\/op=37\/op=38\/op=39)with h|h|h|h<;>subst h<;>simp[hM,h0,e1,Ds,-Prod.exists]
theorem EP{op N:Int}{s:GSignature}{a:GType}(hop:op=10\/op=25\/op=31\/op=32) (ha:ja a s.Enums=true):iA ⟨op,N⟩ [a] s:=by
 have hu:=Ha (op:=op) (by omega);have hus:cc op=false:=by grind[cc]
 unfold iA Ra ra Fa;simp only[hu,hus,gB,qh];obtain⟨ak,ae⟩:=a;rcases hop with h|h|h|h<;>subst h<;>cases N==0
 .simp
 .cases hn:ju ak<;>simp[wg,hn,ha,Ds,-Prod.exists]
 .simp
 .by_cases k1:ak=1
  .subst k1;have:=fA ha (by simp)
   simp_all[wg]
  simp_all[wg]
 .simp
 .by_cases k1:ak=5<;>simp[wg,k1,eA,Ds,-Prod.exists]
 .simp
 .by_cases k1:ak=5<;>simp[wg,k1,eA,Ds,-Prod.exists]
theorem CT{N:Int}{s:GSignature}{a:GType}(ha:ja a s.Enums=true):iA ⟨33,N⟩ [a] s:=by
 have hu:=Ha (op:=33) (by omega);have hus:cc 33=true:=rfl;unfold iA Ra ra Jg;simp only[hu,hus,Na,Zt];by_cases h0:0<=N
 .have e1:¬N<0:=by omega
  by_cases h1:N<(s.Tables.length:Int)
  .obtain⟨t,ht⟩:∃t,idx s.Tables N=some t:=⟨_,Di h0 h1⟩;have e2:¬(s.Tables.length:Int)<=N:=by omega
   cases hk:ja t.Key s.Enums
   .simp[wg,ht,h0,h1,e1,e2,hk,Ds,-Prod.exists]
   .cases hv:ja t.Value s.Enums
    .simp[wg,ht,h0,h1,e1,e2,hk,hv,Ds,-Prod.exists]
    .by_cases k1:a.Kind=t.Key.Kind<;>by_cases k2:a.Enum=t.Key.Enum<;>simp[wg,ht,h0,h1,e1,e2,hk,hv,k1,k2,Ds,-Prod.exists]
  simp_all[wg]
 .have e1:N<0:=by omega
  have e3:¬N<(s.Tables.length:Int)\/N<(s.Tables.length:Int):=by omega
  simp[wg,h0,e1,Ds,-Prod.exists]
theorem DT{N:Int}{s:GSignature}{a:GType}(hN:xb ⟨34,N⟩) (ha:ja a s.Enums=true):iA ⟨34,N⟩ [a] s:=by
 have hu:=Ha (op:=34) (by omega);have hus:cc 34=true:=rfl;have w:=XG (n:=N) (k:=8) (by omega) hN;unfold iA Ra ra Jg cf;simp only[hu,hus,Na,Zt,w];by_cases h0:0<=N
 .have e1:¬N<0:=by omega
  have hd:0<=Baa N 8:=xac h0 (by omega);have hmod:0<=Jaa N 8:=mad _ h0;have e3:¬Baa N 8<0:=by omega
  by_cases h5:Jaa N 8<=5
  .by_cases h1:Baa N 8<(s.Tables.length:Int)
   .obtain⟨t,ht⟩:∃t,idx s.Tables (Baa N 8)=some t:=⟨_,Di hd h1⟩;have e2:¬(s.Tables.length:Int)<=Baa N 8:=by omega
    obtain⟨_,⟨kk,ke⟩,⟨vk,ve⟩,_⟩:=t;obtain⟨ak,ae⟩:=a;simp only[wg,ht,h0,h1,e1,e2,e3,hmod,h5,aaa,if_true,if_false,not_true_eq_false,not_false_eq_true,decide_false,decide_true,haa,saa,maa,beq_self_eq_true,kaa,xab,gac];by_cases hk3:kk=3
    .subst hk3;by_cases hke:ke=0
     .subst hke;rw[show ja ⟨3,0⟩ s.Enums=true from II];by_cases hv4:vk=4
      .subst hv4;by_cases hve:ve=0
       .subst hve;rw[show ja ⟨4,0⟩ s.Enums=true from tR];by_cases ha3:ak=3
        .subst ha3;have:=fA ha (by simp)
         simp_all
        simp_all
       simp_all[ja]
      .cases ja ⟨vk,ve⟩ s.Enums<;>by_cases ha3:ak=3<;>by_cases hae:ae=0<;>simp[ha3,hae,hv4,Ds,-Prod.exists]
     simp_all[ja]
    .cases ja ⟨kk,ke⟩ s.Enums<;>cases ja ⟨vk,ve⟩ s.Enums<;>by_cases ha3:ak=3<;>by_cases hak:ak=kk<;>by_cases hae:ae=ke<;>simp_all[Ds,-Prod.exists]
   simp_all[wg]
  simp_all[wg]
 simp_all[wg]
theorem BT{N:Int}{s:GSignature}{a b c:GType}(hb:ja b s.Enums=true):iA ⟨26,N⟩ [a,b,c] s:=by
 have hu:=Ha (op:=26) (by omega);have hus:cc 26=false:=rfl;unfold iA Ra ra Fa;simp only[hu,hus,gB];obtain⟨bk,be⟩:=b;cases N==0
 .simp
 .by_cases k1:a.Kind=1<;>by_cases k2:bk=c.Kind<;>by_cases k3:be=c.Enum<;>simp[wg,mD,jY,k1,k2,k3,Ds,-Prod.exists]
  simp_all
theorem uV{op N:Int}{s:GSignature}{a b:GType}(hop:(11<=op/\op<=24)\/(27<=op/\op<=30)) {ok:Bool}{t':GType}(hI:Fa op [a,b]=some (t',ok)) (ht:ok=true->ja t' s.Enums=true) :
 iA ⟨op,N⟩ [a,b] s:=by
 have hu:=Ha (op:=op) (by omega);have hr:(14<=op/\op<=16)/\ra ⟨op,N⟩ [a,b] s=(if(decide (0<=N)&&decide (N<=5))=true then(Fa op [a,b]).bind λx=>if x.2=false then some (⟨0,0⟩,8)else some (x.1,0)else some (⟨0,0⟩,3))\/
  ¬(14<=op/\op<=16)/\ra ⟨op,N⟩ [a,b] s=((Fa op [a,b]).bind λx=>if x.2=false then some (⟨0,0⟩,8)else some (x.1,0)):=by
  clear hI ht hu;by_cases h:14<=op/\op<=16
  .refine .inl ⟨h,?_⟩
   .unfold ra cf;simp only[ew];rcases(by omega:op=14\/op=15\/op=16)with h|h|h<;>subst h<;>by_cases g1:0<=N<;>by_cases g2:N<=5<;>simp[g1,g2]
  .refine .inr ⟨h,?_⟩
   .unfold ra;rcases(by omega:op=11\/op=12\/op=13\/op=17\/op=18\/op=19\/op=20\/op=21\/op=22\/op=23\/op=24\/op=27\/op=28\/op=29\/op=30)with h|h|h|h|h|h|h|h|h|h|h|h|h|h|h<;>subst h<;>simp
 have fin:∀(hz:cc op=true\/N=0),ra ⟨op,N⟩ [a,b] s=((Fa op [a,b]).bind λx=>if x.2=false then some (⟨0,0⟩,8)else some (x.1,0))->iA ⟨op,N⟩ [a,b] s:=by
  intro hz h2;unfold iA;rw[K2 hu h2 hI hz]
  grind
 rcases hr with⟨h,h2⟩|⟨h,h2⟩
 .have hus:cc op=true:=by grind[cc]
  by_cases hN:(decide (0<=N)&&decide (N<=5))=true
  .simp_all
  .rw[had]at hN;rw[hN,if_neg (by simp)]at h2;unfold iA Ra
   simp_all
 .have hus:cc op=false:=by grind[cc]
  by_cases hN:N=0
  .simp_all
  .unfold iA Ra
   simp_all
theorem FP{op N:Int}{s:GSignature}{a b:GType}(hop:(11<=op/\op<=24)\/(27<=op/\op<=30)) (ha:ja a s.Enums=true):iA ⟨op,N⟩ [a,b] s:=by
 have hz:∀k,1<=k->k<=5->a.Kind=k->a.Enum=0:=λk h1 h2 h=>fA ha (by omega);obtain⟨ak,ae⟩:=a;obtain⟨bk,be⟩:=b;simp only at hz;have hr:∃t' ok,Fa op [⟨ak,ae⟩,⟨bk,be⟩]=some (t',ok)/\(ok=true->ja t' s.Enums=true):=by
  unfold Fa vg;simp only[wg,mD,qh];rcases(by omega:op=11\/op=12\/op=13\/op=14\/op=15\/op=16\/op=17\/op=18\/op=19\/op=20\/op=21\/op=22\/op=23\/op=24\/op=27\/op=28\/op=29\/op=30)with h|h|h|h|h|h|h|h|h|h|h|h|h|h|h|h|h|h<;>subst h
  .by_cases k1:ak=bk/\ae=be
   .cases hn:ju ak<;>simp[k1,hn,ha]
    all_goals grind
   .simp[k1]
  .by_cases k1:ak=bk/\ae=be
   .cases hn:ju ak<;>simp[k1,hn,ha]
    all_goals grind
   .simp[k1]
  .by_cases k1:bk=2<;>by_cases k2:ak=2<;>by_cases k3:ak=3<;>simp[k1,k2,k3,eA,II]
  .by_cases k1:bk=4<;>by_cases k2:ak=3<;>by_cases k3:ak=4<;>simp[k1,k2,k3,tR,II]
  .by_cases k1:bk=2<;>by_cases k2:ak=2<;>by_cases k3:ak=3<;>by_cases k4:bk=3<;>simp[k1,k2,k3,k4,eA,II,tR]
   all_goals simp_all
  .by_cases k1:ak=3<;>by_cases k2:bk=3<;>simp[k1,k2]
   simp_all
  .by_cases k1:ak=bk/\ae=be
   .cases hn:ju ak<;>by_cases k5:ak=5<;>simp[k1,hn,k5,ha]
    all_goals grind
   .simp[k1]
  .by_cases k1:ak=bk/\ae=be
   .cases hn:ju ak<;>by_cases k5:ak=5<;>simp[k1,hn,k5,ha]
    all_goals grind
   .simp[k1]
  .by_cases k1:ak=bk<;>by_cases k2:ae=be<;>simp[k1,k2,cC]
  .by_cases k1:ak=bk<;>by_cases k2:ae=be<;>simp[k1,k2,cC]
  .by_cases k1:ak=bk/\ae=be
   .cases hn:ju ak<;>by_cases k5:ak=5<;>simp[k1,hn,k5,cC]
    all_goals grind[cC]
   .simp[k1]
  .by_cases k1:ak=bk/\ae=be
   .cases hn:ju ak<;>by_cases k5:ak=5<;>simp[k1,hn,k5,cC]
    all_goals grind[cC]
   .simp[k1]
  .by_cases k1:ak=1<;>by_cases k2:bk=1<;>simp[k1,k2]
   grind
  .by_cases k1:ak=1<;>by_cases k2:bk=1<;>simp[k1,k2]
   grind
  .by_cases k1:ak=5<;>by_cases k2:bk=2<;>simp[k1,k2]
   simp_all
  .by_cases k1:ak=5<;>by_cases k2:bk=2<;>simp[k1,k2]
   simp_all
  .by_cases k1:ak=5<;>by_cases k2:bk=5<;>simp[k1,k2,eA]
  .by_cases k1:ak=5<;>by_cases k2:bk=5<;>simp[k1,k2,eA]
 obtain⟨t',ok,h1,h3⟩:=hr
 grind[uV]
theorem SK{n:GNode}{ops:List GType}{s:GSignature}(hop:1<=n.Op/\n.Op<=39) (hN:xb n) (hlen:(ops.length:Int)=pb n.Op) (hv:∀t∈ops,ja t s.Enums=true):iA n ops s:=by
 obtain⟨op,N⟩:=n;simp only at hop hlen;unfold pb at hlen;by_cases h0:(1<=op/\op<=9)\/(35<=op/\op<=39)
 .rw[if_pos h0]at hlen;obtain rfl:ops=[]:=zaa (by omega);rcases(by omega:(1<=op/\op<=5)\/op=6\/op=7\/op=8\/op=9\/op=35\/(36<=op/\op<=39))with h|h|h|h|h|h|h
  .exact CP h rfl
  all_goals grind[HY,IY,JY,KY,ET,DP]
 rw[if_neg h0]at hlen;by_cases h1:op=10\/op=25\/(31<=op/\op<=34)
 .rw[if_pos h1]at hlen;obtain⟨a,rfl⟩:∃a,ops=[a]:=by
   match ops,hlen with
   |[a],_=>simp
  have ha:=hv a (by simp);rcases(by omega:(op=10\/op=25\/op=31\/op=32)\/op=33\/op=34)with h|h|h
  all_goals grind[EP,CT,DT]
 rw[if_neg h1]at hlen;by_cases h2:op=26
 .rw[if_pos h2]at hlen;obtain⟨a,b,c,rfl⟩:∃a b c,ops=[a,b,c]:=by
   match ops,hlen with
   |[a,b,c],_=>simp
  grind[BT]
 rw[if_neg h2,if_pos (by omega)]at hlen;obtain⟨a,b,rfl⟩:∃a b,ops=[a,b]:=by
  match ops,hlen with
  |[a,b],_=>simp
 grind[FP]
def Yb(e:List GNode) (i:Nat):Nat:=(pb (ua e i).Op).toNat
noncomputable def xw(e:List GNode) (s:GSignature) (st:List GType) (i:Nat):GType×Int:=(Ra (ua e i) (st.drop (st.length-Yb e i)) s).getD (⟨0,0⟩,0)
noncomputable def oq(e:List GNode) (s:GSignature):Nat->List GType
 |0=>[]
 |i+1=>(oq e s i).take ((oq e s i).length-Yb e i)++[(xw e s (oq e s i) i).1]
noncomputable def tx(e:List GNode) (s:GSignature) (i:Nat):Option (GType×Int×Int):=
 if(xw e s (oq e s i) i).2=0 then none else some (⟨0,0⟩,(i:Int),(xw e s (oq e s i) i).2)
noncomputable def Kn(e:List GNode) (s:GSignature):GType×Int×Int:=
 if(xm e).2.2=0 then(match ff (tx e s) e.length with|some v=>v|none=>((oq e s e.length)[0]?.getD ⟨0,0⟩,0,0))else(⟨0,0⟩,(xm e).2.1,(xm e).2.2)
structure Wst (e:List GNode):Prop where
 pos:0<e.length
 le:e.length<=48
 err:∀i,i<e.length->fv e i=none
 one:(Se e e.length).2.length<=1
theorem ZG{e:List GNode}(h:(xm e).2.2=0):Wst e:=by
 unfold xm at h;split at h
 .grind
 split at h
 .grind
 rename_i h48 h0;split at h
 .grind[fv,Ta]
 .rename_i hn;split at h
  .grind
  .exact⟨by omega,by omega,Xb.1 hn,by omega⟩
theorem Wst.ar{e:List GNode}(h:Wst e) {i:Nat}(hi:i<e.length):0<=pb (ua e i).Op/\Yb e i<=(Se e i).2.length/\(1<=(ua e i).Op/\(ua e i).Op<=39):=by
 have:=h.err i hi
 grind[fv,Yb,Dw]
theorem jE{e:List GNode}{i:Nat}:(Se e (i+1)).2.length=(Se e i).2.length-Yb e i+1:=by
 simp[Se,Yb]
theorem xT{e:List GNode}(hN:∀n∈e,xb n) {i:Nat}(hi:i<e.length):xb (ua e i):=by
 rw[←Zd hi];simp_all
theorem ct{e:List GNode}{s:GSignature}(h:Wst e) (hN:∀n∈e,xb n):∀i,i<=e.length->(∀j,j<i->tx e s j=none)->(oq e s i).length=(Se e i).2.length/\∀t∈oq e s i,ja t s.Enums=true
 |0,_,_=>by simp[oq,Se]
 |i+1,hi,ht=>by
  obtain⟨h1,h2⟩:=ct h hN i (by omega) λj hj=>ht j (by omega);obtain⟨a1,a2,a3⟩:=h.ar (i:=i) (by omega);refine⟨by grind[oq,jE],?_⟩;intro t hm;simp only[oq,List.mem_append,jab]at hm;rcases hm with hm|rfl
  .grind
  .obtain⟨r,hr,hv⟩:=SK (n:=ua e i) (ops:=(oq e s i).drop ((oq e s i).length-Yb e i)) (s:=s) a3 (xT hN (by omega)) (by grind[Yb]) (λt ht=>h2 t (fac ht));have hz:=ht i (by omega)
   grind[tx,xw]
theorem AD{e:List GNode}{s:GSignature}(h:Wst e) (hN:∀n∈e,xb n) {i:Nat}(hi:i<e.length) (ht:∀j,j<i->tx e s j=none) :
 Ra (ua e i) ((oq e s i).drop ((oq e s i).length-Yb e i)) s=some (xw e s (oq e s i) i):=by
 obtain⟨h1,h2⟩:=ct h hN i (by omega) ht;obtain⟨a1,a2,a3⟩:=h.ar hi;obtain⟨r,hr,hv⟩:=SK (n:=ua e i) (ops:=(oq e s i).drop ((oq e s i).length-Yb e i)) (s:=s) a3 (xT hN hi) (by grind[Yb]) (λt ht=>h2 t (fac ht))
 grind[xw]
theorem MT{e:List GNode}{s:GSignature}(h:Wst e) (hN:∀n∈e,xb n) {i:Nat}(hi:i<e.length) (ht:∀j,j<i->tx e s j=none) :
 Ra (ua e i) ((oq e s i).drop ((oq e s i).length-Yb e i)) s=some (xw e s (oq e s i) i)/\Ua (ua e i) ((oq e s i).drop ((oq e s i).length-Yb e i)) s=some (xw e s (oq e s i) i):=by
 obtain⟨h1,h2⟩:=ct h hN i (by omega) ht;obtain⟨a1,a2,a3⟩:=h.ar hi;obtain⟨e1,r,hr,hv⟩:=NT (n:=ua e i) (ops:=(oq e s i).drop ((oq e s i).length-Yb e i)) (s:=s) a3 (xT hN hi) (by grind[Yb]) (λt ht=>h2 t (fac ht))
 grind[AD]
theorem nw{e:List GNode}(hN:∀n∈e,xb n) (s:GSignature):bm e s=some (Kn e s):=by
 unfold bm Kn;rw[qo,aaa];by_cases h0:(xm e).2.2=0
 .rw[if_neg (by omega),if_pos h0];have hw:=ZG h0;have hl:fa (Uj e s) (([]:List GType),0)=some (Vb (oq e s e.length) (ff (tx e s) e.length)):=by
   refine Kb (λi=>(oq e s i,(i:Int))) (tx e s) e.length _ (λi hi ht=>?_) (λ_=>?_)
   .obtain⟨n1,n2⟩:=MT hw hN hi ht;obtain⟨h1,h2⟩:=ct hw hN i (by omega) ht;obtain⟨a1,a2,a3⟩:=hw.ar hi;have hle:=hw.le;have h12:=Jn (e:=e) (i:=i) λj hj=>hw.err j (by omega);unfold Uj tx;simp only;have hsub:ea .i64 (((oq e s i).length:Int)-pb (ua e i).Op)=(((oq e s i).length-Yb e i:Nat):Int):=by
     grind[Yb,wid]
    rw[if_pos (by omega),Ba hi,aaa,Zd hi,Gp,aaa,hsub,jW (by omega),aaa,n2,aaa];by_cases hz:(xw e s (oq e s i) i).2=0
    .rw[if_neg (by omega),if_pos hz,bt (by omega),aaa,Xe (by grind),aaa,xa (by omega)];rfl
    .rw[if_pos hz,if_neg hz];rfl
   grind[Uj]
  rw[hl]
  cases hf:ff (tx e s) e.length with
  |some v=>rfl
  |none=>
   obtain⟨h1,h2⟩:=ct (s:=s) hw hN e.length (by omega) (Xb.1 hf);have:0<(oq e s e.length).length:=by
    rw[h1];obtain⟨k,hk⟩:∃k,e.length=k+1:=⟨e.length-1,by have:=hw.pos;omega⟩
    grind[jE]
   simp only[Vb,aaa];rw[show(0:Int)=((0:Nat):Int)from rfl,Ba this,aaa,caa this];rfl
 simp_all
theorem Ax{e:List GNode}(hN:∀n∈e,xb n) (s:GSignature):Dn e s=some (Kn e s):=by
 unfold Dn Kn;rw[Qi,aaa];by_cases h0:(xm e).2.2=0
 .rw[if_neg (by omega),if_pos h0];have hw:=ZG h0;have hl:fa (Uk e s) (([]:List GType),0)=some (Vb (oq e s e.length) (ff (tx e s) e.length)):=by
   refine Kb (λi=>(oq e s i,(i:Int))) (tx e s) e.length _ (λi hi ht=>?_) (λ_=>?_)
   .have n1:=AD hw hN hi ht;obtain⟨h1,h2⟩:=ct hw hN i (by omega) ht;obtain⟨a1,a2,a3⟩:=hw.ar hi;have hle:=hw.le;have h12:=Jn (e:=e) (i:=i) λj hj=>hw.err j (by omega);unfold Uk tx;simp only;have hsub:ea .i64 (((oq e s i).length:Int)-pb (ua e i).Op)=(((oq e s i).length-Yb e i:Nat):Int):=by
     grind[Yb,wid]
    rw[if_pos (by omega),Ba hi,aaa,Zd hi];unfold Ra at n1;rw[Ha a3]at n1⊢;have hj:(if¬(ua e i).N=0 then(some (cc (ua e i).Op)).bind λx8=>some (!x8)else some false)=some (!(ua e i).N==0&&!cc (ua e i).Op):=by
     grind
    rw[hj]at n1⊢;rw[aaa]at n1⊢;generalize (!(ua e i).N==0&&!cc (ua e i).Op)=c at n1⊢;cases c
    .rw[if_neg (by simp)]at n1⊢;rw[fg,aaa,hsub,jW (by omega),aaa,n1,aaa];by_cases hz:(xw e s (oq e s i) i).2=0
     .rw[if_neg (by omega),if_pos hz,bt (by omega),aaa,Xe (by grind),aaa,xa (by omega)];rfl
     .rw[if_pos hz,if_neg hz];rfl
    .rw[if_pos rfl]at n1⊢;injection n1 with n1;rw[←n1,if_neg (by decide)];rfl
   grind[Uk]
  rw[hl]
  cases hf:ff (tx e s) e.length with
  |some v=>rfl
  |none=>
   obtain⟨h1,h2⟩:=ct (s:=s) hw hN e.length (by omega) (Xb.1 hf);have:0<(oq e s e.length).length:=by
    rw[h1];obtain⟨k,hk⟩:∃k,e.length=k+1:=⟨e.length-1,by have:=hw.pos;omega⟩
    grind[jE]
   simp only[Vb,aaa];rw[show(0:Int)=((0:Nat):Int)from rfl,Ba this,aaa,caa this];rfl
 simp_all
end Go.Proofs.Dev
namespace Go.Tm
theorem iu{x n:Int}:∀{l:List Int},x∈Si l n↔x∈l\/x=n
 |[]=>by simp[Si]
 |y::l=>by
  simp only[Si];split
  .grind
  .simp only[gab,iu (l:=l)];grind
abbrev aH(l:List Int):Prop:=l.Pairwise (·<·)
theorem Xv{n:Int}:∀{l:List Int},aH l->aH (Si l n)
 |[],_=>by simp[Si]
 |y::l,h=>by
  have h':=oab.1 h;simp only[Si];split
  .split
   .refine oab.2 ⟨λz hz=>?_,h⟩
    grind
   omega
  .refine oab.2 ⟨λz hz=>?_,Xv h'.2⟩;rcases iu.1 hz with hz|rfl
   all_goals simp_all
theorem Cz{n:Int}:∀{l:List Int},(Si l n).length<=l.length+1
 |[]=>by simp[Si]
 |y::l=>by
  simp only[Si];split
  .grind
  .have:=Cz (n:=n) (l:=l);simp_all
theorem EK{n:Int}:∀{l:List Int},(∀x∈l,x<n)->Si l n=l++[n]
 |[],_=>rfl
 |y::l,h=>by
  have:=h y (by simp);simp only[Si];rw[if_neg (by omega),EK λx hx=>h x (by grind)];rfl
theorem WH{n:Int}{r:List Int}:∀{l:List Int},(∃x∈l,n<=x)->Si (l++r) n=Si l n++r
 |[],h=>by grind
 |y::l,h=>by
  simp only[Si,Haa];split
  .grind
  .rename_i hny;rw[WH (l:=l),Haa]
   simp_all
theorem xA{n x:Int}:∀{l:List Int},(∀y∈l,y<n)->n<=x->Si (l++[x]) n=l++(if n<x then [n,x]else [x])
 |[],_,h=>by simp_all[Si]
 |y::l,hl,h=>by
  have:=hl y (by simp);simp only[Si,Haa];rw[if_neg (by omega),xA (λy hy=>hl y (by grind)) h]
theorem dI{α A β ρ:Type}{step:A×Int->Option (Ex (A×Int) β ρ)}(xs:List α) (f:A->α->A) (a0:A) (b:β) {x0:A×Int}(hx:x0=(a0,0))
 (hgo:∀(i:Nat) (hi:i<xs.length),step ((xs.take i).foldl f a0,(i:Int))=some (.go (f ((xs.take i).foldl f a0) xs[i],((i+1:Nat):Int)))) (hend:step (xs.foldl f a0,(xs.length:Int))=some (.brk b)) :
 fa step x0=some (.inl b):=by
 refine Kc (λi=>((xs.take i).foldl f a0,(i:Int))) xs.length b (λi hi=>?_) ?_ (by simp_all)
 all_goals grind[Laa]
end Go.Tm
namespace Go.Proofs.Dev
open Go Go.Tm
theorem jP{l:List Int}{n:Int}(hl:l.length<=1099511627776):fa (Vj l n) (([]:List Int),false,0)=some (.inl (if(l.any λx=>decide (n<=x))=true then Si l n else l,l.any λx=>decide (n<=x))):=by
 refine Kc (λi=>(if((l.take i).any λx=>decide (n<=x))=true then Si (l.take i) n else l.take i,(l.take i).any λx=>decide (n<=x),(i:Int))) l.length _ (λi hi=>?_) ?_ (by simp)
 .unfold Vj;simp only;have ht:l.take (i+1)=l.take i++[l[i]]:=by simp
  have hlen:(l.take i).length=i:=by grind
  rw[if_pos (by omega),ht,List.any_append,Ba hi];generalize l[i]=x;generalize l.take i=p at hlen⊢;cases hp:p.any λx=>decide (n<=x)
  .have hall:∀y∈p,y<n:=λy hy=>by
    simp_all
   simp only[if_true,aaa,haa,if_false,Bool.false_or,List.any_cons,List.any_nil,Yac];by_cases hx:n<=x
   .rw[decide_eq_true hx];simp only[if_true];by_cases hx2:n<x
    .rw[if_pos hx2,Xe (by grind),aaa,aaa,aaa];simp only;rw[Xe (by grind),aaa,xa (by omega),xA hall hx,if_pos hx2];simp
    .rw[if_neg hx2,aaa,aaa];simp only;rw[Xe (by grind),aaa,xa (by omega),xA hall hx,if_neg hx2]
   .rw[decide_eq_false hx];simp only[haa,if_false,aaa]
    grind[Xe,xa]
  .have hex:∃y∈p,n<=y:=by
    simp_all
   have:=Cz (n:=n) (l:=p);simp only[saa,if_false,aaa,if_true,haa,Bool.true_or]
   grind[Xe,xa,WH]
 grind[Vj]
theorem mo{l:List Int}{n:Int}(hl:l.length<=1099511627776):Bj l n=some (Si l n):=by
 unfold Bj;rw[jP hl,aaa];simp only;cases hp:l.any λx=>decide (n<=x)
 .have hall:∀y∈l,y<n:=λy hy=>by
   simp_all
  simp only[if_true,haa,if_false]
  grind[Xe,EK]
 simp
theorem tw{l:List Int}{n:Int}(hl:l.length<=1099511627776):Ej l n=some (Si l n):=by
 rw[←mo hl];rfl
end Go.Proofs.Dev
namespace Go.Tm
theorem KC{l:List Int}{x:Int}:oe (l++[x])=Si (oe l) x:=by simp[oe,List.foldl_append]
theorem Xl(l:List Int):aH (oe l)/\(oe l).length<=l.length/\∀x,x∈oe l↔x∈l:=by
 have key:∀(l a:List Int),aH a->aH (l.foldl Si a)/\(l.foldl Si a).length<=a.length+l.length/\∀x,x∈l.foldl Si a↔x∈a\/x∈l:=by
  intro l
  induction l with
  |nil=>simp
  |cons y l ih=>
   intro a h;obtain⟨h1,h2,h3⟩:=ih (Si a y) (Xv h);have:=Cz (n:=y) (l:=a);refine⟨h1,by grind,λx=>?_⟩
   simp_all[mab,iu,gab,or_assoc]
 obtain⟨h1,h2,h3⟩:=key l [] (by simp)
 grind[oe]
theorem CG{lo hi:Int}:∀{a:List Int},aH a->(∀x∈a,lo<=x/\x<hi)->a.length<=(hi-lo).toNat
 |[],_,_=>by simp
 |x::a,h,hb=>by
  have h':=oab.1 h;have hx:=hb x (by simp);have:=CG (lo:=x+1) (hi:=hi) h'.2 λy hy=>⟨by grind,(hb y (by grind)).2⟩
  grind
theorem uz:∀{a b:List Int},aH a->aH b->(∀x,x∈a↔x∈b)->a=b
 |[],[],_,_,_=>rfl
 |[],y::b,_,_,h=>by have:=(h y).2 (by simp);simp_all
 |x::a,[],_,_,h=>by have:=(h x).1 (by simp);simp_all
 |x::a,y::b,ha,hb,h=>by
  have ha':=oab.1 ha;have hb':=oab.1 hb;have hxy:x=y:=by
   have h1:=(h x).1 (by simp);have h2:=(h y).2 (by simp)
   grind
  subst hxy;rw[uz ha'.2 hb'.2 λz=>?_]
  grind
end Go.Tm
namespace Go.Proofs.Dev
open Go Go.Tm
def Dv(p:GNode->Bool) (e:List GNode):List Int:=oe ((e.filter p).map (·.N))
theorem uO{p:GNode->Bool}{l:List GNode}{x:GNode}:Dv p (l++[x])=if p x=true then Si (Dv p l) x.N else Dv p l:=by
 unfold Dv;rw[iab,List.map_append];by_cases h:p x=true
 all_goals simp_all[if_pos,List.filter_cons_of_pos,List.filter_nil,KC,if_neg,List.filter_cons_of_neg]
theorem Mq{p:GNode->Bool}{e:List GNode}:(Dv p e).length<=e.length:=by
 grind[Dv,Xl,Qaa]
def XH(n:GNode):Bool:=n.Op==7
def Pd(n:GNode):Bool:=n.Op==8
def nB(n:GNode):Bool:=n.Op==36 || n.Op==37 || n.Op==38 || n.Op==39
def dq(e:List GNode):List Int×List Int×List Int:=(Dv XH e,Dv Pd e,Dv nB e)
theorem uz:∀{a b:List Int},aH a->aH b->(∀x,x∈a↔x∈b)->a=b
 |[],[],_,_,_=>rfl
 |[],y::b,_,_,h=>by have:=(h y).2 (by simp);simp_all
 |x::a,[],_,_,h=>by have:=(h x).1 (by simp);simp_all
 |x::a,y::b,ha,hb,h=>by
  obtain⟨ha1,ha2⟩:=oab.1 ha;obtain⟨hb1,hb2⟩:=oab.1 hb;have hxy:x=y:=by
   have h1:=(h x).1 (by simp);have h2:=(h y).2 (by simp)
   grind
  subst hxy;rw[uz ha2 hb2 λz=>?_]
  grind
theorem yx{d:Array Int}(hs:∀i j,i<j->j<d.size->d[i]!<=d[j]!):∀m,m<=d.size->aH (Go.Lib.compactUpTo d m)/\∀x,x∈Go.Lib.compactUpTo d m↔∃i,i<m/\d[i]! = x
 |0,_=>⟨by simp[Go.Lib.compactUpTo,aH],by simp[Go.Lib.compactUpTo]⟩
 |m+1,hm=>by
  obtain⟨ih1,ih2⟩:=yx hs m (by omega);have hle:∀i,i<m->d[i]!<=d[m-1]!:=by
   intro i hi;by_cases h:i=m-1
   .simp_all
   .exact hs i (m-1) (by omega) (by omega)
  rw[Go.Lib.compactUpTo_succ];by_cases hk:Go.Lib.keeps d m=true
  .rw[if_pos hk];refine⟨?_,λx=>?_⟩
   .unfold aH;rw[List.pairwise_append];refine⟨ih1,by simp,λa ha c hc=>?_⟩;obtain⟨i,hi,rfl⟩:=(ih2 a).1 ha;obtain rfl:=jab.1 hc;have hne:d[m]!≠d[m-1]!:=by
     have:=of_decide_eq_true hk;omega
    have h1:=hle i hi;have h2:=hs (m-1) m (by omega) (by omega);omega
   grind
  .rw[if_neg hk,List.append_nil];refine⟨ih1,λx=>?_⟩;rw[ih2];have hk':Go.Lib.keeps d m=false:=by simp_all
   have hmm:¬(m=0\/d[m]!≠d[m-1]!):=of_decide_eq_false hk'
   grind
theorem yp(l:List Int):Go.Lib.compact (l.mergeSort λx y=>decide (x<=y))=oe l:=by
 have hp:=List.pairwise_mergeSort (le:=λ(x y:Int)=>decide (x<=y)) (λa b c h1 h2=>by grind) (λa b=>by grind) l;have hm:∀x,x∈(l.mergeSort λx y=>decide (x<=y))↔x∈l:=λx=>List.mem_mergeSort;generalize (l.mergeSort λx y=>decide (x<=y))=q at *;obtain⟨h1,h2⟩:=yx (d:=q.toArray) (λi j hij hj=>by
  grind[List.pairwise_iff_getElem]) q.length (by simp)
 obtain⟨g1,-,g2⟩:=Xl l;refine uz h1 g1 λx=>?_;unfold Go.Lib.compact;rw[h2,g2,←hm x];constructor
 .grind
 .intro h;obtain⟨i,hi,rfl⟩:=List.mem_iff_getElem.1 h;exact⟨i,hi,by simp_all⟩
theorem uq{l:List Int}(h:l.length<=1099511627776):ti l=some (oe l):=by
 unfold ti ob Pa;rw[if_pos (by omega),aaa,if_pos (by simp;omega),aaa,yp]
theorem oA{l:List Int}(h:l.length<=8796093022208):Li l=some (oe l):=by
 simp_all[Li,ob,Pa,if_pos,aaa,yp]
theorem Uv{p:GNode->Bool}{l:List GNode}{x:GNode}:((l++[x]).filter p).map (·.N)=if p x=true then(l.filter p).map (·.N)++[x.N]else(l.filter p).map (·.N):=by
 grind
theorem Ns{e:List GNode}(h:e.length<=1099511627776):ph e=some (dq e):=by
 unfold ph;have hb:∀(p:GNode->Bool) (i:Nat),(((e.take i).filter p).map (·.N)).length<=e.length:=λp i=>by
  grind
 have hl:fa (Ig e) (([]:List Int),([]:List Int),([]:List Int),0)=some (.inl ((e.filter XH).map (·.N),(e.filter Pd).map (·.N),(e.filter nB).map (·.N))):=by
  refine Kc (λi=>(((e.take i).filter XH).map (·.N),((e.take i).filter Pd).map (·.N),((e.take i).filter nB).map (·.N),(i:Int))) e.length _ (λi hi=>?_) ?_ rfl
  .have ht:e.take (i+1)=e.take i++[e[i]]:=by simp
   have b1:=hb XH i;have b2:=hb Pd i;have b3:=hb nB i;unfold Ig;simp only;rw[if_pos (by omega),Ba hi,aaa,xa (by omega),ht,Uv,Uv,Uv]
   grind[XH,Pd,nB,Xe]
  simp_all[Ig,if_neg,wab]
 have c:∀p:GNode->Bool,((e.filter p).map (·.N)).length<=1099511627776:=λp=>by
  grind
 rw[hl,aaa];simp only;rw[uq (c XH),aaa,uq (c Pd),aaa,uq (c nB),aaa];rfl
theorem Kr{e:List GNode}(h:e.length<=1099511627776):xg e=some (dq e):=by
 unfold xg;have hl:fa (Wf e) (([]:List Int),([]:List Int),([]:List Int),0)=some (.inl (dq e)):=by
  refine Kc (λi=>((dq (e.take i)).1,(dq (e.take i)).2.1,(dq (e.take i)).2.2,(i:Int))) e.length _ (λi hi=>?_) ?_ rfl
  .have ht:e.take (i+1)=e.take i++[e[i]]:=by simp
   have hlen:(e.take i).length<=1099511627776:=by grind
   have l1:=Mq (p:=XH) (e:=e.take i);have l2:=Mq (p:=Pd) (e:=e.take i);have l3:=Mq (p:=nB) (e:=e.take i);unfold Wf dq;simp only[ht,uO];rw[if_pos (by omega),Ba hi,xa (by omega)];generalize e[i]=x;simp only[aaa,mo (kab l1 hlen),mo (kab l2 hlen),mo (kab l3 hlen),ew]
   grind[baa,decide,XH,Si,Dv,Pd,nB]
  grind[Wf]
 simp_all
def Yv(n:Int) (a:List Int) (x:Int):List Int:=if 0<=x/\x<n then Si a x else a
def Ky(n:Int) (a:List Int):Prop:=aH a/\∀x∈a,0<=x/\x<n
theorem Ky.len{n:Int}{a:List Int}(h:Ky n a):a.length<=n.toNat:=by
 have:=CG (lo:=0) (hi:=n) h.1 h.2;omega
theorem Ky.nil{n:Int}:Ky n []:=⟨by simp,by simp⟩
theorem Ky.ins{n:Int}{a:List Int}{x:Int}(h:Ky n a):Ky n (Yv n a x):=by
 unfold Yv;split
 .rename_i hx;refine⟨Xv h.1,λy hy=>?_⟩;rcases iu.1 hy with hy|rfl
  .exact h.2 y hy
  omega
 omega
theorem Ky.fold{n:Int}:∀{l a:List Int},Ky n a->Ky n (l.foldl (Yv n) a)
 |[],a,h=>h
 |x::l,a,h=>Ky.fold (l:=l) h.ins
theorem yD{n x:Int}:∀{l a:List Int},x∈l.foldl (Yv n) a↔x∈a\/(x∈l/\0<=x/\x<n)
 |[],a=>by simp
 |y::l,a=>by
  simp only[mab];rw[yD (l:=l)];unfold Yv;split
  .rename_i hy;rw[iu,gab]
   grind
  grind
theorem vy(s:GScope) (d:Int):Pr s d=some (decide (0<=d)&&decide (d<(s.Defs.length:Int))):=by
 grind[Pr]
def Aw(r:GRule):List Int:=Dv Pd r.Guard++Dv Pd r.Value
def IC(n d:Int) (a:List Int) (r:GRule):List Int:=if r.Def=d then(Aw r).foldl (Yv n) a else a
def az(s:GScope) (d:Int):List Int:=if 0<=d/\d<(s.Defs.length:Int)then s.Rules.foldl (IC s.Defs.length d) []else []
structure ScOk (s:GScope):Prop where
 defs:s.Defs.length<=1048576
 rules:s.Rules.length<=1048576
 g:∀r∈s.Rules,r.Guard.length<=1048576/\r.Value.length<=1048576
theorem vO{n d:Int}{a:List Int}{r:GRule}(h:Ky n a):Ky n (IC n d a r):=by
 unfold IC;split
 .exact h.fold
 omega
theorem Nv{n d:Int}:∀{l:List GRule}{a:List Int},Ky n a->Ky n (l.foldl (IC n d) a)
 |[],a,h=>h
 |r::l,a,h=>Nv (l:=l) (vO h)
theorem bz(s:GScope) (d:Int):Ky s.Defs.length (az s d):=by
 grind[az,Nv,Ky.nil]
theorem ZA{s:GScope}(hs:ScOk s) {l:List Int}(hl:l.length<=1099511627776) {a:List Int}(ha:Ky s.Defs.length a) {step:List Int×Int->Option (Ex (List Int×Int) (List Int) Unit)}
 (hstep:∀(a:List Int) (i:Nat) (hi:i<l.length),step (a,(i:Int))=(baa (α:=List Int) (if(decide (0<=l[i])&&decide (l[i]<(s.Defs.length:Int)))=true then(Ej a l[i]).bind λx=>some x else some a) λj=>some (.go (j,ea .i64 ((i:Int)+1)))))
 (hend:∀a,step (a,(l.length:Int))=some (.brk a)):fa step (a,0)=some (.inl (l.foldl (Yv s.Defs.length) a)):=by
 refine dI l (Yv s.Defs.length) a _ rfl (λi hi=>?_) (hend _);have hI:=(Ky.fold (l:=l.take i) ha).len;have:=hs.defs;rw[hstep _ i hi,xa (by omega)];generalize (l.take i).foldl (Yv s.Defs.length) a=b at hI⊢;unfold Yv;by_cases h:0<=l[i]/\l[i]<(s.Defs.length:Int)
 .rw[if_pos (by simp_all),if_pos h,tw (by omega)];rfl
 grind
theorem sw{s:GScope}(hs:ScOk s) (d:Int):gm s d=some (az s d):=by
 unfold gm az;rw[vy,aaa];by_cases hd:0<=d/\d<(s.Defs.length:Int)
 .rw[if_neg (by simp_all),if_pos hd];have hl:fa (fj s d) (([]:List Int),0)=some (.inl (s.Rules.foldl (IC s.Defs.length d) [])):=by
   refine dI s.Rules (IC s.Defs.length d) [] _ rfl (λi hi=>?_) ?_
   .have hI:Ky s.Defs.length ((s.Rules.take i).foldl (IC s.Defs.length d) []):=Nv Ky.nil;have:=hs.rules;have hg:=hs.g _ (iaa hi);unfold fj;simp only;rw[if_pos (by omega),Ba hi,xa (by omega)];generalize (s.Rules.take i).foldl (IC s.Defs.length d) []=a at hI⊢;generalize s.Rules[i]=r at hg⊢;unfold IC;by_cases h:r.Def=d
    .rw[if_pos h,aaa,if_neg (by omega),Kr (by omega),aaa,Kr (by omega),aaa];have l1:=Mq (p:=Pd) (e:=r.Guard);have l2:=Mq (p:=Pd) (e:=r.Value);have b1:fa (km s (dq r.Guard)) (a,0)=some (.inl ((Dv Pd r.Guard).foldl (Yv s.Defs.length) a)):=by
      refine ZA hs (l:=Dv Pd r.Guard) (by omega) hI (λa i hi=>?_) (λa=>?_)
      all_goals simp_all[km,dq,if_pos,Ba,aaa,vy]
     rw[b1,aaa];simp only;have b2:fa (im s (dq r.Value)) ((Dv Pd r.Guard).foldl (Yv s.Defs.length) a,0)=some (.inl ((Dv Pd r.Value).foldl (Yv s.Defs.length) ((Dv Pd r.Guard).foldl (Yv s.Defs.length) a))):=by
      refine ZA hs (l:=Dv Pd r.Value) (by omega) (Ky.fold hI) (λa i hi=>?_) (λa=>?_)
      all_goals simp_all[im,dq,if_pos,Ba,aaa,vy]
     grind[Aw]
    simp_all
   grind[fj]
  simp_all
 grind
def vC(s:GScope) (d x:Int):Prop:=(0<=d/\d<(s.Defs.length:Int))/\(0<=x/\x<(s.Defs.length:Int))/\∃r∈s.Rules,r.Def=d/\x∈Aw r
theorem Fz{s:GScope}{d x:Int}:x∈az s d↔vC s d x:=by
 have key:∀(l:List GRule) (a:List Int),x∈l.foldl (IC s.Defs.length d) a↔x∈a\/(0<=x/\x<(s.Defs.length:Int))/\∃r∈l,r.Def=d/\x∈Aw r:=by
  intro l
  induction l with
  |nil=>simp
  |cons r l ih=>
   intro a;simp only[mab];rw[ih];unfold IC;split
   .rename_i hr;rw[yD]
    grind
   simp_all
 unfold az vC
 simp_all
end Go.Proofs.Dev
namespace Go.Tm
theorem Gx{α:Type} [DecidableEq α]:∀{a b:List α},a.Nodup->(∀x∈a,x∈b)->a.length<=b.length
 |[],b,_,_=>by simp
 |x::a,b,h,hs=>by
  obtain⟨h1,h2⟩:=oad.1 h;have:=Gx (a:=a) (b:=b.erase x) h2 λy hy=>by
   grind
  grind
theorem wM{a:List Int}(h:aH a):a.Nodup:=h.imp λh he=>by omega
end Go.Tm
namespace Go.Proofs.Dev
open Go Go.Tm
inductive Way (s:GScope):Int->Int->Prop
 |one {a b:Int} (h:vC s a b):Way s a b
 |step {a b c:Int} (h:Way s a b) (h2:vC s b c):Way s a c
def pV(s:GScope) (a:List Int) (x:Int):List Int:=(az s x).foldl Si a
def trR(s:GScope) (a:List Int):List Int:=a.foldl (pV s) a
def Iy(s:GScope) (d:Int):Nat->List Int
 |0=>az s d
 |k+1=>trR s (Iy s d k)
theorem yA{n:Int}:∀{l a:List Int},(∀x∈l,0<=x/\x<n)->l.foldl Si a=l.foldl (Yv n) a
 |[],a,_=>rfl
 |x::l,a,h=>by
  simp only[mab];rw[show Yv n a x=Si a x from if_pos (h x (by simp)),yA λy hy=>h y (by grind)]
theorem nR(s:GScope) (a:List Int) (x:Int):pV s a x=(az s x).foldl (Yv s.Defs.length) a:=yA (bz s x).2
theorem qV{s:GScope}{a:List Int}{x:Int}(h:Ky s.Defs.length a):Ky s.Defs.length (pV s a x):=by rw[nR];exact h.fold
theorem rV{s:GScope}{a:List Int}{x y:Int}:y∈pV s a x↔y∈a\/vC s x y:=by
 rw[nR,yD];constructor
 .grind[Fz]
 .rintro(h|h)
  .simp_all
  .exact .inr ⟨Fz.2 h,h.2.1⟩
theorem Hy{s:GScope}:∀{l a:List Int},Ky s.Defs.length a->Ky s.Defs.length (l.foldl (pV s) a)
 |[],a,h=>h
 |x::l,a,h=>Hy (l:=l) (qV h)
theorem Bs{s:GScope}{y:Int}:∀{l a:List Int},y∈l.foldl (pV s) a↔y∈a\/∃x∈l,vC s x y
 |[],a=>by simp
 |x::l,a=>by
  simp only[mab];rw[Bs (l:=l),rV]
  grind
theorem aA(s:GScope) (d:Int):∀k,Ky s.Defs.length (Iy s d k)
 |0=>bz s d
 |k+1=>Hy (aA s d k)
theorem TA{s:GScope}{d y:Int}:∀{k:Nat},y∈Iy s d k->Way s d y
 |0,h=>.one (Fz.1 h)
 |k+1,h=>by
  rcases Bs.1 h with h|⟨x,h1,h2⟩
  .exact TA h
  .exact .step (TA h1) h2
theorem nE{s:GScope}{d y:Int}{k:Nat}(h:y∈Iy s d k):y∈Iy s d (k+1):=Bs.2 (.inl h)
theorem DI{s:GScope}{d y:Int}(h:vC s d y):∀k,y∈Iy s d k
 |0=>Fz.2 h
 |k+1=>nE (DI h k)
def zW(s:GScope) (a:List Int):Prop:=∀x∈a,∀y,vC s x y->y∈a
open Classical in
theorem FI{s:GScope}{d:Int}:∀k,zW s (Iy s d k)\/k+1<=(Iy s d k).length
 |0=>by
  cases h:Iy s d 0 with
  |nil=>exact .inl λx hx=>by simp at hx
  |cons x l=>exact .inr (by simp)
 |k+1=>by
  by_cases hc:zW s (Iy s d k)
  .refine .inl λx hx y hy=>?_;have hx':x∈Iy s d k:=by
    rcases Bs.1 hx with h|⟨z,h1,h2⟩
    .exact h
    .exact hc z h1 x h2
   exact nE (hc x hx' y hy)
  .rcases FI k with h|h
   .exact(hc h).elim
   .right;obtain⟨x,hx⟩:=Qac.1 hc;obtain⟨hx1,hx2⟩:=dad.1 hx;obtain⟨y,hy⟩:=Qac.1 hx2;obtain⟨hy1,hy2⟩:=dad.1 hy;have:=Gx (a:=y::Iy s d k) (b:=Iy s d (k+1)) (oad.2 ⟨hy2,wM (aA s d k).1⟩) λz hz=>by
     rcases gab.1 hz with rfl|hz
     .exact Bs.2 (.inr ⟨x,hx1,hy1⟩)
     .exact nE hz
    simp only[List.length_cons]at this;omega
theorem oR(s:GScope) (d:Int):zW s (Iy s d s.Defs.length):=by
 rcases FI (s:=s) (d:=d) s.Defs.length with h|h
 .exact h
 .have:=(aA s d s.Defs.length).len;omega
theorem PK{s:GScope}{d y:Int}:y∈Iy s d s.Defs.length↔Way s d y:=by
 constructor
 .exact TA
 .intro h
  induction h with
  |one h=>grind[DI]
  |step h h2 ih=>exact oR s d _ ih _ h2
theorem uy{s:GScope}(hs:ScOk s) (d:Int):ij s d=some (Iy s d s.Defs.length):=by
 unfold ij;have hn:=hs.defs;have round:∀a,Ky s.Defs.length a->fa (nf s a) (a,0)=some (.inl (trR s a)):=by
  intro a ha;have:=ha.len;refine dI a (pV s) a _ rfl (λi hi=>?_) (by grind[nf,trR]);have hI:Ky s.Defs.length ((a.take i).foldl (pV s) a):=Hy ha;unfold nf;simp only;rw[if_pos (by omega),Ba hi,aaa,sw hs,aaa,xa (by omega)];generalize (a.take i).foldl (pV s) a=b at hI⊢;have hd:=(bz s a[i]).len;have hb:fa (mf (az s a[i])) (b,0)=some (.inl ((az s a[i]).foldl Si b)):=by
   refine dI (az s a[i]) Si b _ rfl (λk hk=>?_) (by grind[mf]);have hI2:Ky s.Defs.length (((az s a[i]).take k).foldl Si b):=by
    rw[yA λx hx=>(bz s a[i]).2 x (List.mem_of_mem_take hx)];exact hI.fold
   have:=hI2.len;unfold mf;simp only;rw[if_pos (by omega),Ba hk,aaa,tw (by omega),aaa,xa (by omega)]
  rw[hb,aaa];rfl
 have hl:fa (pf s) (az s d,0)=some (.inl (Iy s d s.Defs.length)):=by
  refine Kc (λi=>(Iy s d i,(i:Int))) s.Defs.length _ (λi hi=>?_) (by grind[pf]) rfl;unfold pf;simp only;rw[if_pos (by omega),round _ (aA s d i),aaa,xa (by omega)];rfl
 grind[sw]
def pD(n:Int) (l:List Int):List Int:=l.filter λx=>decide (0<=x)&&decide (x<n)
theorem rF{n:Int}{l a:List Int}(h:a.length+l.length<=1099511627776) {step:List Int×Int->Option (Ex (List Int×Int) (List Int) Unit)}
 (hstep:∀(a:List Int) (i:Nat) (hi:i<l.length),step (a,(i:Int))=(baa (α:=List Int) (if(decide (0<=l[i])&&decide (l[i]<n))=true then(app 8 a [l[i]]).bind λx=>some x else some a) λj=>some (.go (j,ea .i64 ((i:Int)+1)))))
 (hend:∀a,step (a,(l.length:Int))=some (.brk a)):fa step (a,0)=some (.inl (a++pD n l)):=by
 refine Kc (λi=>(a++pD n (l.take i),(i:Int))) l.length _ (λi hi=>?_) ?_ (by simp[pD])
 .have hlen:(pD n (l.take i)).length<=i:=by
   grind[pD]
  have ht:pD n (l.take (i+1))=pD n (l.take i)++(if(decide (0<=l[i])&&decide (l[i]<n))=true then [l[i]]else []):=by
   grind[pD,Laa]
  grind[xa,Xe]
 simp_all
theorem Np{r:GRule}(h:r.Guard.length<=1048576/\r.Value.length<=1048576) (n:Int):Bd r n=some (pD n (Dv Pd r.Guard)++pD n (Dv Pd r.Value)):=by
 unfold Bd;have l1:=Mq (p:=Pd) (e:=r.Guard);have l2:=Mq (p:=Pd) (e:=r.Value);have l3:(pD n (Dv Pd r.Guard)).length<=(Dv Pd r.Guard).length:=Qaa _ _;rw[Ns (by omega),aaa,Ns (by omega),aaa];have b1:fa (Ae n (dq r.Guard)) (([]:List Int),0)=some (.inl ([]++pD n (Dv Pd r.Guard))):=by
  refine rF (l:=Dv Pd r.Guard) (by grind) (λa i hi=>?_) (λa=>?_)
  .unfold Ae dq;simp only;rw[if_pos (by omega),Ba hi,aaa]
   grind
  grind[Ae,dq]
 rw[b1,aaa];simp only[List.nil_append];have b2:fa (xe n (dq r.Value)) (pD n (Dv Pd r.Guard),0)=some (.inl (pD n (Dv Pd r.Guard)++pD n (Dv Pd r.Value))):=by
  refine rF (l:=Dv Pd r.Value) (by omega) (λa i hi=>?_) (λa=>?_)
  .unfold xe dq;simp only;rw[if_pos (by omega),Ba hi,aaa]
   grind
  grind[xe,dq]
 simp_all
theorem mapM_some{α β:Type}{f:α->Option β}(g:α->β):∀{l:List α},(∀x∈l,f x=some (g x))->l.mapM f=some (l.map g)
 |[],_=>rfl
 |x::l,h=>by
  rw[List.mapM_cons,h x (by simp),mapM_some g λy hy=>h y (by grind)];rfl
def Lt(s:GScope):List (List Int):=
 (uaa s.Defs.length).map λ(d:Nat)=>oe ((s.Rules.filter λ(r:GRule)=>r.Def==(d:Int)).map λr=>pD s.Defs.length (Dv Pd r.Guard)++pD s.Defs.length (Dv Pd r.Value)).flatten
theorem Rt{s:GScope}(hs:ScOk s):Ki s=some (Lt s):=by
 unfold Ki Lt;rw[if_pos ⟨hs.defs,hs.rules,hs.g⟩];refine mapM_some _ λd _=>?_;rw[mapM_some (λr=>pD s.Defs.length (Dv Pd r.Guard)++pD s.Defs.length (Dv Pd r.Value)) λr hr=>Np (hs.g r (lac.1 hr).1) _];rfl
theorem Ez{s:GScope}{d:Int}{l:List Int}(h0:0<=d) (h:(Lt s)[d.toNat]?=some l) (x:Int):x∈l↔vC s d x:=by
 unfold Lt at h;rw[List.getElem?_map]at h;by_cases hd:d.toNat<s.Defs.length
 .rw[List.getElem?_range hd]at h;simp only[Option.map_some,Maa]at h;subst h;rw[(Xl _).2.2];simp only[List.mem_flatten,Xab,lac,beq_iff_eq,vC,Aw,pD]
  grind
 simp_all
theorem ir(s:GScope):(Lt s).length=s.Defs.length:=by simp[Lt]
theorem SM{s:GScope}{a b:Int}(h0:0<=a):ReachL (Lt s) a b↔Way s a b:=by
 constructor
 .intro h;have key:∀{b:Int},ReachL (Lt s) a b->Way s a b/\0<=b:=by
   intro b h
   induction h with
   |one h hb=>exact have:=(Ez h0 h _).1 hb;⟨.one this,this.2.1.1⟩
   |step h hl hc ih=>exact have:=(Ez ih.2 hl _).1 hc;⟨.step ih.1 this,this.2.1.1⟩
  simp_all
 .intro h;have get:∀{d x:Int},vC s d x->∃l,(Lt s)[d.toNat]?=some l/\x∈l:=by
   intro d x hd;have hlt:d.toNat<(Lt s).length:=by rw[ir];have:=hd.1;omega
   exact⟨_,caa hlt,(Ez hd.1.1 (caa hlt) x).2 hd⟩
  induction h with
  |one h=>obtain⟨l,h1,h2⟩:=get h;exact .one h1 h2
  |step h h2 ih=>obtain⟨l,k1,k2⟩:=get h2;exact .step ih k1 k2
theorem iG{l:List Int}(hl:l.length<=1099511627776) (d:Int):Nd l d=some (decide (d∈l)):=by
 have h:=Vl (l:=l) (p:=λx=>some (decide (d=x))) (λx=>decide (d=x)) (λx _=>rfl) (by omega) (o:=fa (Jf l d) 0) (by
  unfold Jf;simp)
 have h':Nd l d=some (l.any λx=>decide (d=x)):=h
 grind
open Classical in
theorem Yy{s:GScope}(hs:ScOk s) (d:Int):∃l,Nj s d=some l/\l.length<=1048576/\∀x,x∈l↔Way s d x:=by
 unfold Nj;by_cases hd:0<=d/\d<(s.Defs.length:Int)
 .have hn:=hs.defs;refine⟨GD (Lt s) d,?_,?_,?_⟩
  .rw[if_pos (by omega),aaa,if_neg (by simp;omega),Rt hs,aaa];unfold Wl;rw[if_pos]
   .rfl
   .refine⟨by rw[ir];omega,λl hl=>?_,hd.1,by rw[ir];exact hd.2⟩;obtain⟨i,hi,rfl⟩:=Aaa hl;have hm:=λx=>Ez (s:=s) (d:=(i:Int)) (l:=(Lt s)[i]) (by omega) (by rw[Int.toNat_natCast];exact caa hi) x;have hb:∀x∈(Lt s)[i],0<=x/\x<((Lt s).length:Int):=λx hx=>by rw[ir];exact((hm x).1 hx).2.1
    refine⟨?_,hb⟩;have hinc:aH (Lt s)[i]:=by simp only[Lt,List.getElem_map];exact(Xl _).1
    have:=CG hinc hb;rw[ir]at this;omega
  .have h1:=Qaa (λb=>@decide (ReachL (Lt s) d b) (Classical.propDecidable _)) ((uaa (Lt s).length).map λ(k:Nat)=>(k:Int));unfold GD;simp only[List.length_map,List.length_range,ir]at h1⊢;omega
  .intro x;unfold GD;rw[lac,ir,Xab,decide_eq_true_eq,SM hd.1];constructor
   .exact λh=>h.2
   .intro h;refine⟨?_,h⟩;have:0<=x/\x<(s.Defs.length:Int):=by cases h with|one h=>exact h.2.1|step _ h=>exact h.2.1
    exact⟨x.toNat,by simp;omega,by omega⟩
 .refine⟨[],?_,by simp,λx=>?_⟩
  .have:(if¬d<0 then some (decide ((s.Defs.length:Int)<=d))else some true)=some true:=by
    by_cases h:d<0
    .rw[if_neg (by omega)]
    .rw[if_pos h,decide_eq_true (by omega)]
   rw[this];rfl
  .constructor
   .intro h;simp at h
   .intro h;exfalso;apply hd;clear hd
    induction h with
    |one h=>exact h.1
    |step h h2 ih=>exact ih
structure LawOk (l:GLaw):Prop where
 ne:l.Enums.length<=1048576
 nt:l.Tables.length<=1048576
 ns:l.Scopes.length<=1048576
 e:∀x∈l.Enums,x.Name.size<=1048576/\∀m∈x.Members,m.size<=1048576
 t:∀x∈l.Tables,x.Name.size<=1048576
 s:∀x∈l.Scopes,x.Name.size<=1048576/\ScOk x/\x.Inputs.length<=1048576/\(∀f∈x.Inputs,f.Name.size<=1048576)/\(∀f∈x.Defs,f.Name.size<=1048576)/\
  (∀r∈x.Rules,r.Name.size<=1048576/\r.Source.size<=1048576/\(∀n∈r.Guard,xb n)/\∀n∈r.Value,xb n)
theorem oH{α ρ:Type}{l:List α}{q:α->Bool}{k:Nat}(hk:k<=l.length) {g:Nat->ρ}:(ff (λi=>if i<k/\(l[i]?.any q)=true then some (g i)else none) l.length).isSome=(l.take k).any q:=by
 rw[←Wk (l:=l.take k) (q:=q) (g:=g)];have h:∀m,k<=m->ff (λi=>if i<k/\(l[i]?.any q)=true then some (g i)else none) m=ff (λi=>if((l.take k)[i]?.any q)=true then some (g i)else none) k:=by
  intro m hm
  cases h1:ff (λi=>if((l.take k)[i]?.any q)=true then some (g i)else none) k with
  |none=>
   grind[Xb]
  |some v=>
   grind[Ta]
 simp_all
theorem Um{α:Type}{l:List α}{q:α->Bool}{k:Nat}(hl:l.length<=1048576) (hk:k<=l.length) {step:Int->Option (Ex Int Unit Bool)}
 (hstep:∀(i:Nat) (hi:i<l.length),step (i:Int)=if i<k/\q l[i]=true then some (.ret true)else some (.go ((i+1:Nat):Int))) (hend:step (l.length:Int)=some (.brk ())) :
 fa step 0=some (if(l.take k).any q=true then .inr true else .inl ()):=by
 have h1:=Kb (step:=step) (x0:=0) (λi=>(i:Int)) (λi=>if i<k/\(l[i]?.any q)=true then some true else none) l.length () (λi hi _=>by
  rw[hstep i hi,caa hi,Yaa];by_cases h:i<k/\q l[i]=true
  .rw[if_pos h,if_pos h];rfl
  .rw[if_neg h,if_neg h];rfl) (λ_=>hend)
 rw[h1,←oH (q:=q) (g:=λ_=>true) hk]
 cases hf:ff (λi=>if i<k/\(l[i]?.any q)=true then some true else none) l.length with
 |none=>rfl
 |some v=>
  obtain⟨i,-,h2,-⟩:=Ta.1 hf;split at h2
  .injection h2 with h2;subst h2;rfl
  simp_all
theorem iy{n:Nat}(hn:n<=1048576) {step:Int->Option (Ex Int Unit Bool)}(hstep:∀i:Nat,i<n->step (i:Int)=some (.go ((i+1:Nat):Int))) (hend:step (n:Int)=some (.brk ())):fa step 0=some (.inl ()):=
 Kc (λi=>(i:Int)) n () (λi hi=>hstep i hi) hend
theorem FZ{l:GLaw}(h:LawOk l) {i:Nat}(hi:i<=l.Enums.length) (nm:ByteArray):pc l 1 (i:Int) nm=some ((l.Enums.take i).any λx=>decide (x.Name=nm)):=by
 have hne:=h.ne;have hnt:=h.nt;have hns:=h.ns;unfold pc;have h1:fa (jc l 1 (i:Int) nm) 0=some (if(l.Enums.take i).any (λx=>decide (x.Name=nm))=true then .inr true else .inl ()):=Um hne hi (λk hk=>by
  unfold jc;rw[if_pos (by omega),Ba hk,xa (by omega)]
  grind) (by grind[jc])
 have h2:fa (lb l 1 (i:Int) nm) 0=some (.inl ()):=iy hnt (λk hk=>by
  unfold lb;rw[if_pos (by omega),xa (by omega)];simp) (by grind[lb])
 have h3:fa (vb l 1 (i:Int) nm) 0=some (.inl ()):=iy hns (λk hk=>by
  unfold vb;rw[if_pos (by omega),xa (by omega)];simp) (by grind[vb])
 grind
theorem mH{l:GLaw}(h:LawOk l) {t i:Int}(ht:1<t) (nm:ByteArray):fa (jc l t i nm) 0=some (if l.Enums.any (λx=>decide (x.Name=nm))=true then .inr true else .inl ()):=by
 have hne:=h.ne;have:=Um (l:=l.Enums) (q:=λx=>decide (x.Name=nm)) (k:=l.Enums.length) (step:=jc l t i nm) hne (oaa _) (λk hk=>by
  unfold jc;rw[if_pos (by omega),Ba hk,xa (by omega),if_neg (by omega)]
  simp_all) (by grind[jc])
 simp_all
theorem GZ{l:GLaw}(h:LawOk l) {i:Nat}(hi:i<=l.Tables.length) (nm:ByteArray):pc l 2 (i:Int) nm=some ((l.Enums.any λx=>decide (x.Name=nm)) || (l.Tables.take i).any λx=>decide (x.Name=nm)):=by
 have hne:=h.ne;have hnt:=h.nt;have hns:=h.ns;unfold pc;have h2:fa (lb l 2 (i:Int) nm) 0=some (if(l.Tables.take i).any (λx=>decide (x.Name=nm))=true then .inr true else .inl ()):=Um hnt hi (λk hk=>by
  unfold lb;rw[if_pos (by omega),Ba hk,xa (by omega)]
  grind) (by grind[lb])
 have h3:fa (vb l 2 (i:Int) nm) 0=some (.inl ()):=iy hns (λk hk=>by
  unfold vb;rw[if_pos (by omega),xa (by omega)];simp) (by grind[vb])
 grind[mH]
theorem HZ{l:GLaw}(h:LawOk l) {i:Nat}(hi:i<=l.Scopes.length) (nm:ByteArray):pc l 3 (i:Int) nm=some ((l.Enums.any λx=>decide (x.Name=nm)) || ((l.Tables.any λx=>decide (x.Name=nm)) || (l.Scopes.take i).any λx=>decide (x.Name=nm))):=by
 have hne:=h.ne;have hnt:=h.nt;have hns:=h.ns;unfold pc;have h2:fa (lb l 3 (i:Int) nm) 0=some (if l.Tables.any (λx=>decide (x.Name=nm))=true then .inr true else .inl ()):=by
  have:=Um (l:=l.Tables) (q:=λx=>decide (x.Name=nm)) (k:=l.Tables.length) (step:=lb l 3 (i:Int) nm) hnt (oaa _) (λk hk=>by
   unfold lb;rw[if_pos (by omega),Ba hk,xa (by omega)]
   simp_all) (by grind[lb])
  simp_all
 have h3:fa (vb l 3 (i:Int) nm) 0=some (if(l.Scopes.take i).any (λx=>decide (x.Name=nm))=true then .inr true else .inl ()):=Um hns hi (λk hk=>by
  unfold vb;rw[if_pos (by omega),Ba hk,xa (by omega)]
  grind) (by grind[vb])
 rw[mH h (by omega),h2,h3]
 grind
theorem uA{l:List GEnum}(hl:l.length<=1048576) (nm:ByteArray):rj l nm=some (l.any λx=>decide (x.Name=nm)):=by
 have h:=Vl (l:=l) (p:=λx=>ef x nm) (λx=>decide (x.Name=nm)) (λx _=>rfl) (by omega) (o:=fa (Oc l (λx=>ef x nm)) 0) rfl;have h':ib l (λx=>ef x nm)=some (l.any λx=>decide (x.Name=nm)):=h
 grind[rj]
theorem lD{l:List GTable}(hl:l.length<=1048576) (nm:ByteArray):zj l nm=some (l.any λx=>decide (x.Name=nm)):=by
 have h:=Vl (l:=l) (p:=λx=>qe x nm) (λx=>decide (x.Name=nm)) (λx _=>rfl) (by omega) (o:=fa (Fc l (λx=>qe x nm)) 0) rfl;have h':Xa l (λx=>qe x nm)=some (l.any λx=>decide (x.Name=nm)):=h
 grind[zj]
theorem DJ{l:List GScope}(hl:l.length<=1048576) (y:GScope):Wa l (λx=>Yc x y)=some (l.any λx=>decide (x.Name=y.Name)):=
 Vl (l:=l) (p:=λx=>Yc x y) (λx=>decide (x.Name=y.Name)) (λx _=>rfl) (by omega) (o:=fa (Ec l (λx=>Yc x y)) 0) rfl
theorem kD{l:List GField}(hl:l.length<=1048576) (y:GField):La l (λx=>Bc x y)=some (l.any λx=>decide (x.Name=y.Name)):=
 Vl (l:=l) (p:=λx=>Bc x y) (λx=>decide (x.Name=y.Name)) (λx _=>rfl) (by omega) (o:=fa (Dc l (λx=>Bc x y)) 0) rfl
theorem uM{l:List GRule}(hl:l.length<=1048576) (y:GRule):Ib l (λx=>Me x y)=some (l.any λx=>decide (x.Name=y.Name)):=
 Vl (l:=l) (p:=λx=>Me x y) (λx=>decide (x.Name=y.Name)) (λx _=>rfl) (by omega) (o:=fa (Pc l (λx=>Me x y)) 0) rfl
theorem dP{l:List ByteArray}(hl:l.length<=1048576) (y:ByteArray):jd l y=some (l.any λx=>decide (x=y)):=by
 have h:=Vl (l:=l) (p:=λx=>some (decide (y=x))) (λx=>decide (x=y)) (λx _=>by grind) (by omega) (o:=fa (kd l y) 0) (by
  unfold kd;simp)
 exact h
noncomputable def SB(x:GEnum) (k:Nat):Option (Int×Int):=
 match x.Members[k]? with
 |some m=>if Ri m=false then some (2,100+(k:Int))else if((x.Members.take k).any λy=>decide (y=m))=true then some (7,100+(k:Int))else none
 |none=>none
noncomputable def bf(l:GLaw) (i:Nat) (x:GEnum):Int×Int:=
 if Ri x.Name=false then(2,0)else if((l.Enums.take i).any λy=>decide (y.Name=x.Name))=true then(7,0)
 else if x.Members.length=0 then(5,0)else if 16<x.Members.length then(4,116)else(ff (SB x) x.Members.length).getD (0,0)
theorem tT{x:GEnum}{k:Nat}{v:Int×Int}(h:SB x k=some v):v.1≠0:=by
 grind[SB]
theorem NB{l:GLaw}(h:LawOk l) {i:Nat}(hi:i<l.Enums.length):Im l (i:Int) l.Enums[i]=some (bf l i l.Enums[i]):=by
 obtain⟨g1,g2⟩:=h.e _ (iaa hi);have hne:=h.ne;generalize l.Enums[i]=x at g1 g2⊢;unfold Im bf;rw[En (by omega),aaa];cases Ri x.Name
 .rfl
 simp only[haa,saa,if_false];rw[bt (by omega),aaa,uA (by grind),aaa];cases (l.Enums.take i).any λy=>decide (y.Name=x.Name)
 .simp only[haa,saa,if_false];by_cases h0:x.Members.length=0
  .simp_all
  rw[if_neg (by omega),if_neg h0];by_cases h16:16<x.Members.length
  .grind
  rw[if_neg (by omega),if_neg h16];have hl:fa (Ti x) 0=some (Vb () (ff (SB x) x.Members.length)):=
   Kb (λk=>(k:Int)) _ _ _ (λk hk _=>by
    have hm:=g2 _ (iaa hk);unfold Ti SB;rw[if_pos (by omega),Ba hk,aaa,En (by omega),aaa,caa hk,wid (n:=100+(k:Int)) (by omega) (by omega),xa (by omega),bt (by omega),aaa,dP (by grind),aaa];simp only;cases Ri x.Members[k]
    .rfl
    .simp only[haa,saa,if_false];cases (x.Members.take k).any λy=>decide (y=x.Members[k])<;>rfl) (λ_=>by grind[Ti])
  rw[hl];cases ff (SB x) x.Members.length<;>rfl
 .rfl
theorem Lz{l:GLaw}(h:LawOk l) {i:Nat}(hi:i<l.Enums.length):Yj l (i:Int)=some (if(bf l i l.Enums[i]).1=0 then⟨0,0,0,0⟩else⟨(bf l i l.Enums[i]).1,1,i,(bf l i l.Enums[i]).2⟩):=by
 obtain⟨g1,g2⟩:=h.e _ (iaa hi);have hne:=h.ne;unfold Yj bf;rw[Ba hi,aaa];generalize l.Enums[i]=x at g1 g2⊢;rw[ql (by omega),aaa,FZ h (by omega),aaa];cases Ri x.Name
 .rfl
 simp only[haa,saa,if_false];cases (l.Enums.take i).any λy=>decide (y.Name=x.Name)
 .simp only[haa,saa,if_false];by_cases h0:x.Members.length=0
  .simp_all
  rw[if_neg (by omega),if_neg h0];by_cases h16:16<x.Members.length
  .grind
  rw[if_neg (by omega),if_neg h16];have hl:fa (Ug (i:Int) x) (0,0)=some (Vb () ((ff (SB x) x.Members.length).map λv=>(⟨v.1,1,(i:Int),v.2⟩:GLawError))):=by
   have hff:(ff (SB x) x.Members.length).map (λv=>(⟨v.1,1,(i:Int),v.2⟩:GLawError))=ff (λk=>(SB x k).map λv=>(⟨v.1,1,(i:Int),v.2⟩:GLawError)) x.Members.length:=by
    cases h1:ff (SB x) x.Members.length with
    |none=>grind[Xb]
    |some v=>grind[Ta]
   rw[hff];refine Kb (λk=>((if k=0 then 0 else 100+((k-1:Nat):Int)),(k:Int))) _ _ _ (λk hk _=>?_) (λ_=>by grind[Ug]) (by rfl);have hm:=g2 _ (iaa hk);unfold Ug SB;simp only;rw[if_pos (by omega),Ba hk,aaa,ql (by omega),aaa,caa hk,wid (n:=100+(k:Int)) (by omega) (by omega),xa (by omega)];have hl2:fa (Tg (i:Int) x (k:Int) x.Members[k]) 0=some (Vb () (ff (λj=>if((x.Members.take k)[j]?.any λy=>decide (y=x.Members[k]))=true then some (Ex.ret (⟨7,1,(i:Int),100+(k:Int)⟩:GLawError))else none) (x.Members.take k).length)):=
    Kb (λj=>(j:Int)) _ _ _ (λj hj _=>by
     have hjk:j<k:=by grind
     unfold Tg;rw[if_pos (by omega),Ba (by omega),aaa,caa hj,wid (n:=100+(k:Int)) (by omega) (by omega),xa (by omega)];simp only[Yaa,bac,decide_eq_true_eq];by_cases he:x.Members[j]=x.Members[k]
     .rw[if_pos he,if_pos he];rfl
     .rw[if_neg he,if_neg he];rfl) (λ_=>by
      grind[Tg])
   dsimp only;cases Ri x.Members[k]
   .rfl
   simp only[haa,saa,if_false];rw[hl2,aaa,←Wk (l:=x.Members.take k) (q:=λy=>decide (y=x.Members[k])) (g:=λ_=>(Ex.ret (⟨7,1,(i:Int),100+(k:Int)⟩:GLawError):Ex (Int×Int) Unit GLawError))]
   cases h1:ff (λj=>if((x.Members.take k)[j]?.any λy=>decide (y=x.Members[k]))=true then some (Ex.ret (⟨7,1,(i:Int),100+(k:Int)⟩:GLawError):Ex (Int×Int) Unit GLawError)else none) (x.Members.take k).length with
   |none=>simp[Vb,lC]
   |some v=>
    obtain⟨j,j1,j2,-⟩:=Ta.1 h1;split at j2
    .injection j2 with j2;subst j2;rfl
    simp_all
  rw[hl]
  cases h1:ff (SB x) x.Members.length with
  |none=>rfl
  |some v=>
   grind[Vb,Ta,tT]
 .rfl
noncomputable def Sm(l:GLaw) (i:Nat) (x:GTable):Int×Int:=
 if Ri x.Name=false then(2,0)
 else if((l.Enums.any λy=>decide (y.Name=x.Name)) || (l.Tables.take i).any λy=>decide (y.Name=x.Name))=true then(7,0)
 else if(Io x l.Enums).2=0 then(0,0)else((Io x l.Enums).2,if(Io x l.Enums).1 = -1 then 0 else 100+(Io x l.Enums).1)
theorem kE(t:GTable) (e:List GEnum):-1<=(Io t e).1/\(Io t e).1<=64:=by
 unfold Io;split
 .simp
 .split
  .simp
  .cases h:ff (NG t e) t.Rows.length with
   |none=>simp
   |some v=>
    grind[NG,Ta]
theorem xM{l:GLaw}(h:LawOk l):fa (Mg l) 0=some (Vb () (ff (λi=>match l.Tables[i]? with|some x=>if(Sm l i x).1=0 then none else some (⟨(Sm l i x).1,2,(i:Int),(Sm l i x).2⟩:GLawError)|none=>none) l.Tables.length)):=by
 have hnt:=h.nt;have hne:=h.ne;refine Kb (λk=>(k:Int)) _ _ _ (λi hi _=>?_) (λ_=>by grind[Mg]);have hx:=h.t _ (iaa hi);unfold Mg Sm;rw[if_pos (by omega),Ba hi,aaa,caa hi,xa (by omega)];simp only;generalize l.Tables[i]=x at hx⊢;have hr:=kE x l.Enums;rw[PA,aaa,En (by omega),aaa,uA hne,aaa,bt (by omega),aaa,lD (by grind),wid (n:=100+(Io x l.Enums).1) (by omega) (by omega)]
 grind[lC]
theorem yy{l:GLaw}(h:LawOk l) {i:Nat}(hi:i<l.Tables.length):mj l (i:Int)=some (if(Sm l i l.Tables[i]).1=0 then⟨0,0,0,0⟩else⟨(Sm l i l.Tables[i]).1,2,i,(Sm l i l.Tables[i]).2⟩):=by
 have hnt:=h.nt;have hne:=h.ne;have hx:=h.t _ (iaa hi);unfold mj Sm;rw[Ba hi,aaa];generalize l.Tables[i]=x at hx⊢;have hr:=kE x l.Enums;rw[ql (by omega),aaa,GZ h (by omega),aaa,EA,aaa,wid (n:=100+(Io x l.Enums).1) (by omega) (by omega)]
 grind
noncomputable def xr(l:GLaw) (f:GField) (a b:List GField):Int:=
 if Ri f.Name=false then 2 else if((a.any λy=>decide (y.Name=f.Name)) || b.any λy=>decide (y.Name=f.Name))=true then 7 else if ja f.Type_ l.Enums=false then 8 else 0
theorem du{l:GLaw}{f:GField}{a b:List GField}(hf:f.Name.size<=1048576) (ha:a.length<=1048576) (hb:b.length<=1048576):Kg l f a b=some (xr l f a b):=by
 unfold Kg xr;rw[En (by omega),aaa,kD ha,aaa,kD hb,Na,aaa]
 grind
theorem np{l:List GField}{k:Nat}(hl:l.length<=1048576) (hk:k<=l.length) (nm:ByteArray):Vg l (k:Int) nm=some ((l.take k).any λy=>decide (y.Name=nm)):=by
 unfold Vg;have h1:fa (fi l (k:Int) nm) 0=some (Vb () (ff (λi=>if((l.take k)[i]?.any λy=>decide (y.Name=nm))=true then some true else none) (l.take k).length)):=
  Kb (λi=>(i:Int)) _ _ _ (λi hi _=>by
   have hik:i<k:=by simp_all
   unfold fi;rw[if_pos (by omega),aaa,decide_eq_true (by omega),if_pos rfl,Ba (by omega),aaa,caa hi,xa (by omega)];simp only[Yaa,bac,decide_eq_true_eq];by_cases he:l[i].Name=nm
   .rw[if_pos he,if_pos he];rfl
   .rw[if_neg he,if_neg he];rfl) (λ_=>by
    simp_all[fi])
 rw[h1,←Wk (q:=λ(y:GField)=>decide (y.Name=nm)) (g:=λ_=>true),aaa]
 cases h2:ff (λi=>if((l.take k)[i]?.any λy=>decide (y.Name=nm))=true then some true else none) (l.take k).length with
 |none=>rfl
 |some v=>
  obtain⟨j,j1,j2,-⟩:=Ta.1 h2;split at j2
  .injection j2 with j2;subst j2;rfl
  simp_all
theorem LB{l:List GField}(hl:l.length<=1048576) {step:List GType×Int->Option (Ex (List GType×Int) (List GType) Unit)}
 (hstep:∀(a:List GType) (i:Nat) (hi:i<l.length),step (a,(i:Int))=((app 16 a [l[i].Type_]).bind λx=>some (.go (x,ea .i64 ((i:Int)+1)))))
 (hend:∀a,step (a,(l.length:Int))=some (.brk a)):fa step (([]:List GType),0)=some (.inl (l.map (·.Type_))):=by
 refine Kc (λi=>((l.take i).map (·.Type_),(i:Int))) l.length _ (λi hi=>?_) (by simp_all) (by simp)
 grind[Xe,xa,Laa]
theorem cp{l:List GField}(hl:l.length<=1048576):Og l=some (l.map (·.Type_)):=by
 unfold Og;rw[LB hl (step:=Ph l) (λa i hi=>by simp_all[Ph,Ba]) (λa=>by grind[Ph])];rfl
def js(l:GLaw) (s:GScope):GSignature:=
 if h:0<=s.MemberScope/\s.MemberScope<(l.Scopes.length:Int)then⟨l.Enums,l.Tables,s.Inputs.map (·.Type_),s.Defs.map (·.Type_),(l.Scopes[s.MemberScope.toNat]'(by omega)).Defs.map (·.Type_),true⟩
 else⟨l.Enums,l.Tables,s.Inputs.map (·.Type_),s.Defs.map (·.Type_),[],false⟩
theorem Ak{l:GLaw}(h:LawOk l) {i:Nat}(hi:i<l.Scopes.length):Vc l (i:Int)=some (js l l.Scopes[i]):=by
 obtain⟨g1,g2,g3,-⟩:=h.s _ (iaa hi);have gd:=g2.defs;unfold Vc js;rw[Ba hi,aaa];generalize l.Scopes[i]=x at gd g3⊢;rw[cp g3,aaa,cp gd,aaa];by_cases hm:0<=x.MemberScope/\x.MemberScope<(l.Scopes.length:Int)
 .have hd:=(h.s _ (iaa (l:=l.Scopes) (n:=x.MemberScope.toNat) (by omega))).2.1.defs
  simp_all[Di,cp]
 grind
theorem Ws{l:GLaw}(h:LawOk l) {i:Nat}(hi:i<l.Scopes.length):th l (i:Int)=some (js l l.Scopes[i]):=by
 rw[←Ak h hi];unfold th Vc;rw[if_pos (by omega),aaa,if_neg (by simp_all)];rfl
def Xz(s:ByteArray) (i:Nat):Bool:=if h:i<s.size then decide (32<=(s[i].toNat:Int))&&decide ((s[i].toNat:Int)<=126)&&!((s[i].toNat:Int)==34)else true
def iK(s:ByteArray):Bool:=decide (s.size<=64)&&(ff (λi=>if Xz s i=true then none else some false) s.size).isNone
theorem Mz{s:ByteArray}(hs:s.size<=1048576):Zj s=some (iK s):=by
 unfold Zj iK;have h1:fa (Wg s) 0=some (Vb () (ff (λi=>if Xz s i=true then none else some false) s.size)):=
  Kb (λi=>(i:Int)) _ _ _ (λi hi _=>by
   unfold Wg Xz;rw[if_pos (by omega),MF hi,aaa,xa (by omega),dif_pos hi]
   grind[lC]) (λ_=>by grind[Wg])
 rw[h1]
 cases h2:ff (λi=>if Xz s i=true then none else some false) s.size with
 |none=>
  grind[decide,Vb]
 |some v=>
  grind[Vb,Ta]
theorem AM{s:ByteArray}{c:UInt8}:s.data.toList.contains c=true↔∃i,∃h:i<s.size,s[i]=c:=by
 rw[List.contains_iff_mem];constructor
 .intro h;obtain⟨i,hi,he⟩:=Aaa h;exact⟨i,by simpa using hi,by rw[←he];rfl⟩
 .rintro⟨i,hi,rfl⟩;exact iaa (l:=s.data.toList) (n:=i) (by simp_all)
theorem Bz{s:ByteArray}(hs:s.size<=1048576):rh s=some (iK s):=by
 unfold rh iK strings_Contains;rw[if_pos (show(faa #[34]).size=1 from rfl)];by_cases h64:64<s.size
 .grind
 rw[if_pos (by omega),decide_eq_true (p:=s.size<=64) (by omega)];have h1:fa (Pg s) 0=some (Vb () (ff (λi=>if(if h:i<s.size then decide (32<=(s[i].toNat:Int))&&decide ((s[i].toNat:Int)<=126)else true)=true then none else some false) s.size)):=
  Kb (λi=>(i:Int)) _ _ _ (λi hi _=>by
   unfold Pg;rw[if_pos (by omega),MF hi,aaa,xa (by omega),dif_pos hi]
   grind[lC]) (λ_=>by grind[Pg])
 rw[h1];simp only[aaa,Uaa];have hc:=AM (s:=s) (c:=34);change (s.data.toList.contains ((faa #[34]).data.toList.headD 0))=true↔_ at hc;have h34:∀i (h:i<s.size),s[i]=34↔(s[i].toNat:Int)=34:=λi h=>by
  constructor
  .simp_all
  .intro he;apply UInt8.toNat_inj.1
   grind
 cases hq:s.data.toList.contains ((faa #[34]).data.toList.headD 0)
 .rw[hq]at hc;have hno:∀i (h:i<s.size),(s[i].toNat:Int)≠34:=λi h he=>by
   simp_all
  rw[if_neg (by simp)];have hff:ff (λi=>if(if h:i<s.size then decide (32<=(s[i].toNat:Int))&&decide ((s[i].toNat:Int)<=126)else true)=true then none else some false) s.size=ff (λi=>if Xz s i=true then none else some false) s.size:=by
   simp_all[Xz]
  rw[hff]
  cases h2:ff (λi=>if Xz s i=true then none else some false) s.size with
  |none=>rfl
  |some v=>
   obtain⟨j,j1,j2,-⟩:=Ta.1 h2;split at j2
   .grind
   .injection j2 with j2;subst j2;rfl
 .obtain⟨i,hi,he⟩:=hc.1 hq;rw[if_pos rfl]
  cases h2:ff (λi=>if Xz s i=true then none else some false) s.size with
  |some v=>rfl
  |none=>
   simp_all[Xz,Xb]
noncomputable def oE(e:List GNode) (s:GSignature) (t:GType):Int:=
 if¬(Kn e s).2.2=0 then(Kn e s).2.2 else if¬((Kn e s).1.Kind=t.Kind/\(Kn e s).1.Enum=t.Enum)then 8 else 0
theorem iv{e:List GNode}(hN:∀n∈e,xb n) (s:GSignature) (t:GType):vi e s t=some (oE e s t):=by
 grind[vi,oE,Ax]
theorem Xs{e:List GNode}(hN:∀n∈e,xb n) (s:GSignature) (t:GType):uh e s t=some (oE e s t):=by
 grind[uh,oE,nw]
def OA(x:GScope) (k:Nat) (r:GRule):Nat:=((x.Rules.take k).filter λy=>decide (y.Def=r.Def)).length
theorem gL(x:GScope) (k:Nat) (r:GRule):OA x k r<=k:=by
 grind[OA]
theorem LF{x:GScope}{k:Nat}{r:GRule}(hk:k<x.Rules.length):OA x (k+1) r=if x.Rules[k].Def=r.Def then OA x k r+1 else OA x k r:=by
 unfold OA;rw[Laa,caa hk,iab,List.length_append]
 grind
def CD(x:GScope) (k:Nat) (r:GRule):Bool:=
 if r.Parent = -1 then false else if r.Parent<0 then true else if(k:Int)<=r.Parent then true else match x.Rules[r.Parent.toNat]? with|some q=>q.Def !=r.Def|none=>true
noncomputable def AB(x:GScope) (s:GSignature) (k:Nat) (r:GRule):Int:=
 if Ri r.Name=false then 2
 else if((x.Rules.take k).any λy=>decide (y.Name=r.Name))=true then 7
 else if r.Def<0\/(x.Defs.length:Int)<=r.Def then 6
 else if CD x k r=true then 9
 else if r.Priority<0\/9<r.Priority\/r.Valid.From<0\/r.Valid.To<=r.Valid.From\/109573<r.Valid.To then 3
 else if 8<=OA x k r then 4
 else if iK r.Source=false then 2
 else if 0<r.Guard.length/\oE r.Guard s ⟨1,0⟩≠0 then oE r.Guard s ⟨1,0⟩
 else oE r.Value s (match x.Defs[r.Def.toNat]? with|some d=>d.Type_|none=>⟨0,0⟩)
structure RuleOk (r:GRule):Prop where
 nm:r.Name.size<=1048576
 src:r.Source.size<=1048576
 g:∀n∈r.Guard,xb n
 v:∀n∈r.Value,xb n
theorem bW{x:GScope}{k:Nat}{r:GRule}(hk:k<x.Rules.length) {o:Option Bool}(ho:o=(if¬r.Parent = -1 then if¬r.Parent<0 then if¬(k:Int)<=r.Parent then(idx x.Rules r.Parent).bind λy=>some (y.Def !=r.Def)else some true else some true else some false)):o=some (CD x k r):=by
 rw[ho];unfold CD;by_cases h1:r.Parent = -1
 .grind
 by_cases h2:r.Parent<0
 .simp_all
 by_cases h3:(k:Int)<=r.Parent
 .simp_all
 .rw[if_pos h1,if_pos h2,if_pos h3,if_neg h1,if_neg h2,if_neg h3,Di (by omega) (by omega),aaa,caa]
theorem OB{x:GScope}(hx:ScOk x) {k:Nat}(hk:k<x.Rules.length) (hr:RuleOk x.Rules[k]) (s:GSignature):qk x (k:Int) s=some (AB x s k x.Rules[k]):=by
 have hrl:=hx.rules;have hdl:=hx.defs;unfold qk AB;rw[Ba hk,aaa,bt (by omega),aaa];generalize hrr:x.Rules[k]=r at hr⊢;have hl:fa (Ui r (x.Rules.take k)) (0,0)=some (.inl ((OA x k r:Nat):Int)):=by
  refine Kc (λi=>(((OA x i r:Nat):Int),(i:Int))) k _ (λi hi=>?_) ?_ rfl
  .have:=gL x i r;unfold Ui;simp only;rw[if_pos (by grind),Ba (by grind),aaa,xa (by omega),xa (by omega),bac,LF (by omega)]
   grind
  grind[Ui]
 rw[hl,aaa];simp only;rw[En (by have:=hr.nm;omega),aaa,aaa,uM (by grind),aaa];cases Ri r.Name
 .rfl
 simp only[saa,if_false];cases (x.Rules.take k).any λy=>decide (y.Name=r.Name)
 .simp only[haa,if_false];by_cases hd:r.Def<0\/(x.Defs.length:Int)<=r.Def
  .grind
  .rw[if_neg hd,if_pos (by omega),aaa,if_neg (by simp_all)];rw[bW hk rfl,aaa];cases CD x k r
   .simp only[haa,if_false];by_cases hp:r.Priority<0\/9<r.Priority
    .grind
    .rw[if_pos (show¬r.Priority<0 by omega),aaa,if_neg (by simp_all)];by_cases hv:r.Valid.From<0\/r.Valid.To<=r.Valid.From\/109573<r.Valid.To
     .grind
     .rw[if_pos (show¬r.Valid.From<0 by omega),if_pos (show¬r.Valid.To<=r.Valid.From by omega),aaa,if_neg (by simp_all),if_neg (show¬(r.Priority<0\/9<r.Priority\/r.Valid.From<0\/r.Valid.To<=r.Valid.From\/109573<r.Valid.To) by omega)];by_cases h8:8<=OA x k r
      .grind
      rw[if_neg (by omega),if_neg h8,Bz hr.src,aaa];cases iK r.Source
      .rfl
      simp only[saa,if_false];have hi:idx x.Defs r.Def=some (x.Defs[r.Def.toNat]'(by omega)):=Di (by omega) (by omega);have hg2:x.Defs[r.Def.toNat]?=some (x.Defs[r.Def.toNat]'(by omega)):=caa _;simp only[hi,hg2,iv hr.g,iv hr.v,aaa]
      grind
   .rfl
 .rfl
theorem UM{v:GDateRange}:mN v=false\/v.From=v.To↔v.From<0\/v.To<=v.From\/109573<v.To:=by
 grind[mN]
theorem OG{l:GLaw}(h:LawOk l) {i:Nat}(hi:i<l.Scopes.length) {r:GRule}(hr:r∈l.Scopes[i].Rules):RuleOk r:=by
 obtain⟨-,-,-,-,-,g⟩:=h.s _ (iaa hi);obtain⟨a,b,c,d⟩:=g r hr;exact⟨a,b,c,d⟩
theorem Nz{l:GLaw}(h:LawOk l) {i:Nat}(hi:i<l.Scopes.length) {k:Nat}(hk:k<l.Scopes[i].Rules.length):ck l (i:Int) (k:Int)=some (AB l.Scopes[i] (js l l.Scopes[i]) k l.Scopes[i].Rules[k]):=by
 have hr:=OG h hi (iaa hk);have hx:=(h.s _ (iaa hi)).2.1;have hS:=Ws h hi;unfold ck;rw[Ba hi,aaa];generalize l.Scopes[i]=x at hk hr hx hS⊢;have hrl:=hx.rules;have hdl:=hx.defs;rw[Ba hk,aaa];unfold AB;generalize hrr:x.Rules[k]=r at hr⊢;rw[ql (by have:=hr.nm;omega),aaa];cases Ri r.Name
 .rfl
 simp only[saa,if_false];have hl:fa (Xg (k:Int) x r) (0,0)=some (Vb ((OA x k r:Nat):Int) (ff (λi=>if((x.Rules.take k)[i]?.any λy=>decide (y.Name=r.Name))=true then some 7 else none) (x.Rules.take k).length)):=by
  refine Kb (λi=>(((OA x i r:Nat):Int),(i:Int))) _ _ _ (λj hj _=>?_) (λ_=>?_) rfl
  .have hjk:j<k:=by grind
   have:=gL x j r;unfold Xg;simp only;rw[if_pos (by omega),Ba (by omega),aaa,xa (by omega),xa (by omega),caa hj,LF (by omega)];simp only[Yaa,bac,decide_eq_true_eq];by_cases hn:x.Rules[j].Name=r.Name
   .rw[if_pos hn,if_pos hn];rfl
   .rw[if_neg hn,if_neg hn];by_cases hd:x.Rules[j].Def=r.Def
    .rw[if_pos hd,if_pos hd];rfl
    .rw[if_neg hd,if_neg hd];rfl
  grind[Xg]
 rw[hl,aaa,←Wk (q:=λ(y:GRule)=>decide (y.Name=r.Name)) (g:=λ_=>(7:Int))]
 cases h2:ff (λi=>if((x.Rules.take k)[i]?.any λy=>decide (y.Name=r.Name))=true then some (7:Int)else none) (x.Rules.take k).length with
 |some v=>
  obtain⟨j,j1,j2,-⟩:=Ta.1 h2;split at j2
  .injection j2 with j2;subst j2;rfl
  simp_all
 |none=>
  simp only[Vb,Option.isSome_none,haa,if_false];by_cases hd:r.Def<0\/(x.Defs.length:Int)<=r.Def
  .grind
  .rw[if_neg hd,if_pos (by omega),aaa,if_neg (by simp_all)];rw[bW hk rfl,aaa];cases CD x k r
   .simp only[haa,if_false,Fp,aaa];have hb:=UM (v:=r.Valid);by_cases hp:r.Priority<0\/9<r.Priority
    .grind
    .rw[if_pos (show¬r.Priority<0 by omega),if_pos (show¬9<r.Priority by omega)];by_cases hv:r.Valid.From<0\/r.Valid.To<=r.Valid.From\/109573<r.Valid.To
     .grind
     .have h1:mN r.Valid=true:=by
       simp_all
      have h2:¬r.Valid.From=r.Valid.To:=λhq=>hv (hb.1 (.inr hq));rw[if_pos h1,aaa,if_neg (by simp_all),if_neg (show¬(r.Priority<0\/9<r.Priority\/r.Valid.From<0\/r.Valid.To<=r.Valid.From\/109573<r.Valid.To) by omega)];by_cases h8:8<=OA x k r
      .grind
      rw[if_neg (by omega),if_neg h8,Mz hr.src,aaa];cases iK r.Source
      .rfl
      simp only[saa,if_false];have hi':idx x.Defs r.Def=some (x.Defs[r.Def.toNat]'(by omega)):=Di (by omega) (by omega);have hg2:x.Defs[r.Def.toNat]?=some (x.Defs[r.Def.toNat]'(by omega)):=caa _;simp only[hS,hi',hg2,Xs hr.g,Xs hr.v,aaa]
      grind
   .rfl
noncomputable def vM(l:GLaw) (x:GScope) (k:Nat):Option (Int×Int):=
 match x.Inputs[k]? with
 |some f=>if xr l f (x.Inputs.take k) []=0 then none else some (xr l f (x.Inputs.take k) [],100+(k:Int))
 |none=>none
noncomputable def HC(l:GLaw) (x:GScope) (k:Nat):Option (Int×Int):=
 match x.Defs[k]? with
 |some f=>if xr l f x.Inputs (x.Defs.take k)=0 then none else some (xr l f x.Inputs (x.Defs.take k),200+(k:Int))
 |none=>none
noncomputable def UE(l:GLaw) (x:GScope) (k:Nat):Option (Int×Int):=
 match x.Rules[k]? with
 |some r=>if AB x (js l x) k r=0 then none else some (AB x (js l x) k r,300+(k:Int))
 |none=>none
open Classical in
noncomputable def HB(x:GScope) (k:Nat):Option (Int×Int):=if Way x (k:Int) (k:Int)then some (9,200+(k:Int))else none
def gy(l:GLaw) (i:Nat) (x:GScope):Bool:=
 if x.MemberScope = -1 then false else if x.MemberScope<0 then true else if(i:Int)<=x.MemberScope then true else match l.Scopes[x.MemberScope.toNat]? with|some q=>q.MemberScope !=-1|none=>true
noncomputable def kg(l:GLaw) (i:Nat) (x:GScope):Int×Int:=
 if Ri x.Name=false then(2,0)
 else if((l.Enums.any λy=>decide (y.Name=x.Name)) || ((l.Tables.any λy=>decide (y.Name=x.Name)) || (l.Scopes.take i).any λy=>decide (y.Name=x.Name)))=true then(7,0)
 else if gy l i x=true then(6,0)
 else if 12<x.Inputs.length then(4,112)
 else if 12<x.Defs.length then(4,212)
 else match ff (vM l x) x.Inputs.length with
  |some v=>v
  |none=>match ff (HC l x) x.Defs.length with
   |some v=>v
   |none=>match ff (UE l x) x.Rules.length with
    |some v=>v
    |none=>(ff (HB x) x.Defs.length).getD (0,0)
theorem xP{l:GLaw}{i:Nat}{x:GScope}(hi:i<l.Scopes.length) {o:Option Bool}(ho:o=(if¬x.MemberScope = -1 then if¬x.MemberScope<0 then if¬(i:Int)<=x.MemberScope then(idx l.Scopes x.MemberScope).bind λy=>some (y.MemberScope !=-1)else some true else some true else some false)):o=some (gy l i x):=by
 rw[ho];unfold gy;by_cases h1:x.MemberScope = -1
 .grind
 by_cases h2:x.MemberScope<0
 .simp_all
 by_cases h3:(i:Int)<=x.MemberScope
 .simp_all
 .rw[if_pos h1,if_pos h2,if_pos h3,if_neg h1,if_neg h2,if_neg h3,Di (by omega) (by omega),aaa,caa]
theorem zM{l:GLaw}{i:Nat}{x:GScope}(hi:i<l.Scopes.length) {o:Option Bool}(ho:o=(if¬x.MemberScope = -1 then if¬x.MemberScope<0 then if¬(i:Int)<=x.MemberScope then(idx (l.Scopes.take i) x.MemberScope).bind λy=>some (y.MemberScope !=-1)else some true else some true else some false)):o=some (gy l i x):=by
 rw[ho];unfold gy;by_cases h1:x.MemberScope = -1
 .grind
 by_cases h2:x.MemberScope<0
 .simp_all
 by_cases h3:(i:Int)<=x.MemberScope
 .simp_all
 .rw[if_pos h1,if_pos h2,if_pos h3,if_neg h1,if_neg h2,if_neg h3,Di (by omega) (by grind),aaa,caa (by omega),bac]
theorem BA{l:GLaw}(h:LawOk l) {i:Nat}(hi:i<l.Scopes.length):Vi l (i:Int)=some (kg l i l.Scopes[i]):=by
 obtain⟨g1,g2,g3,g4,g5,g6⟩:=h.s _ (iaa hi);have hne:=h.ne;have hnt:=h.nt;have hns:=h.ns;have hS:=Ak h hi;have hRu:∀r∈l.Scopes[i].Rules,RuleOk r:=λr hr=>OG h hi hr;unfold Vi kg;rw[Ba hi,aaa,bt (by omega),aaa];generalize l.Scopes[i]=x at g1 g2 g3 g4 g5 g6 hS hRu⊢;have gd:=g2.defs;have gr:=g2.rules;rw[uA hne,aaa,lD hnt,DJ (by grind),En (by omega)];have htk:(if(l.Enums.any λy=>decide (y.Name=x.Name))=false then(some (l.Tables.any λy=>decide (y.Name=x.Name))).bind λx5=>if x5=false then(some ((l.Scopes.take i).any λy=>decide (y.Name=x.Name))).bind λx7=>some x7 else some true else some true) =
  some ((l.Enums.any λy=>decide (y.Name=x.Name)) || ((l.Tables.any λy=>decide (y.Name=x.Name)) || (l.Scopes.take i).any λy=>decide (y.Name=x.Name))):=by
  grind
 rw[htk,aaa,aaa];cases Ri x.Name
 .rfl
 simp only[saa,if_false];cases (l.Enums.any λy=>decide (y.Name=x.Name)) || ((l.Tables.any λy=>decide (y.Name=x.Name)) || (l.Scopes.take i).any λy=>decide (y.Name=x.Name))
 .simp only[haa,if_false];rw[zM (l:=l) (x:=x) hi rfl,aaa];cases gy l i x
  .simp only[haa,if_false];by_cases hI:12<x.Inputs.length
   .grind
   rw[if_neg (by omega),if_neg hI];by_cases hD:12<x.Defs.length
   .grind
   rw[if_neg (by omega),if_neg hD];have l1:fa (Nh l x) 0=some (Vb () (ff (vM l x) x.Inputs.length)):=
    Kb (λk=>(k:Int)) _ _ _ (λk hk _=>by
     unfold Nh vM;rw[if_pos (by omega),Ba hk,aaa,bt (by omega),aaa,du (g4 _ (iaa hk)) (by grind) (by simp),aaa,caa hk,wid (n:=100+(k:Int)) (by omega) (by omega),xa (by omega)];dsimp only;by_cases hz:xr l x.Inputs[k] (x.Inputs.take k) []=0
     .rw[if_neg (by omega),if_pos hz];rfl
     .rw[if_pos hz,if_neg hz];rfl) (λ_=>by grind[Nh])
   have l2:fa (Mh l x) 0=some (Vb () (ff (HC l x) x.Defs.length)):=
    Kb (λk=>(k:Int)) _ _ _ (λk hk _=>by
     unfold Mh HC;rw[if_pos (by omega),Ba hk,aaa,bt (by omega),aaa,du (g5 _ (iaa hk)) g3 (by grind),aaa,caa hk,wid (n:=200+(k:Int)) (by omega) (by omega),xa (by omega)];dsimp only;by_cases hz:xr l x.Defs[k] x.Inputs (x.Defs.take k)=0
     .rw[if_neg (by omega),if_pos hz];rfl
     .rw[if_pos hz,if_neg hz];rfl) (λ_=>by grind[Mh])
   have l3:fa (Kh x (js l x)) 0=some (Vb () (ff (UE l x) x.Rules.length)):=
    Kb (λk=>(k:Int)) _ _ _ (λk hk _=>by
     unfold Kh UE;rw[if_pos (by omega),OB g2 hk (hRu _ (iaa hk)),aaa,caa hk,wid (n:=300+(k:Int)) (by omega) (by omega),xa (by omega)];dsimp only;by_cases hz:AB x (js l x) k x.Rules[k]=0
     .rw[if_neg (by omega),if_pos hz];rfl
     .rw[if_pos hz,if_neg hz];rfl) (λ_=>by grind[Kh])
   have l4:fa (Jh x) 0=some (Vb () (ff (HB x) x.Defs.length)):=
    Kb (λk=>(k:Int)) _ _ _ (λk hk _=>by
     obtain⟨q,q1,q2,q3⟩:=Yy g2 (k:Int);unfold Jh HB;rw[if_pos (by omega),q1,aaa,iG (by omega),aaa,wid (n:=200+(k:Int)) (by omega) (by omega),xa (by omega)];by_cases hz:Way x (k:Int) (k:Int)
     .rw[if_pos (by simp_all),if_pos hz];rfl
     .rw[if_neg (by simp_all),if_neg hz];rfl) (λ_=>by grind[Jh])
   rw[l1,aaa]
   cases ff (vM l x) x.Inputs.length with
   |some v=>rfl
   |none=>
    simp only[Vb];rw[l2,aaa]
    cases ff (HC l x) x.Defs.length with
    |some v=>rfl
    |none=>
     simp only[Vb];rw[hS,aaa,l3,aaa]
     cases ff (UE l x) x.Rules.length with
     |some v=>rfl
     |none=>
      simp only[Vb];rw[l4,aaa];cases ff (HB x) x.Defs.length<;>rfl
  .rfl
 .rfl
theorem wG{α β:Type}{f:Nat->Option α}(g:α->β) {n:Nat}:ff (λk=>(f k).map g) n=(ff f n).map g:=by
 cases h1:ff f n with
 |none=>grind[Xb]
 |some v=>grind[Ta]
def cH(i:Nat) (v:Int×Int):GLawError:=⟨v.1,3,(i:Int),v.2⟩
theorem fP{l:GLaw}{x:GScope}{k:Nat}{v:Int×Int}(h:vM l x k=some v):v.1≠0:=by
 grind[vM]
theorem uK{l:GLaw}{x:GScope}{k:Nat}{v:Int×Int}(h:HC l x k=some v):v.1≠0:=by
 grind[HC]
theorem fL{l:GLaw}{x:GScope}{k:Nat}{v:Int×Int}(h:UE l x k=some v):v.1≠0:=by
 grind[UE]
theorem cS{x:GScope}{k:Nat}{v:Int×Int}(h:HB x k=some v):v.1≠0:=by
 grind[HB]
theorem VC{f:Nat->Option (Int×Int)}(hf:∀{k v},f k=some v->v.1≠0) {n:Nat}{v:Int×Int}(h:ff f n=some v):v.1≠0:=by
 grind[Ta]
theorem wy{l:GLaw}(h:LawOk l) {i:Nat}(hi:i<l.Scopes.length):jj l (i:Int)=some (match ff (vM l l.Scopes[i]) l.Scopes[i].Inputs.length with
 |some v=>cH i v
 |none=>match ff (HC l l.Scopes[i]) l.Scopes[i].Defs.length with
  |some v=>cH i v
  |none=>⟨0,0,0,0⟩):=by
 obtain⟨g1,g2,g3,g4,g5,g6⟩:=h.s _ (iaa hi);unfold jj;rw[Ba hi,aaa];generalize l.Scopes[i]=x at g1 g2 g3 g4 g5 g6⊢;have gd:=g2.defs;have l1:fa (Yf l (i:Int) x) 0=some (Vb () ((ff (vM l x) x.Inputs.length).map (cH i))):=by
  rw[←wG];exact Kb (λk=>(k:Int)) _ _ _ (λk hk _=>by
   have hf:=g4 _ (iaa hk);unfold Yf vM xr;rw[if_pos (by omega),Ba hk,aaa,ql (by omega),aaa,np g3 (by omega),aaa,Oa,aaa,caa hk,wid (n:=100+(k:Int)) (by omega) (by omega),xa (by omega)];dsimp only;generalize x.Inputs[k]=f;cases Ri f.Name
   .rfl
   cases (x.Inputs.take k).any λy=>decide (y.Name=f.Name)
   .cases ja f.Type_ l.Enums<;>rfl
   .rfl) (λ_=>by grind[Yf])
 have l2:fa (Xf l (i:Int) x) 0=some (Vb () ((ff (HC l x) x.Defs.length).map (cH i))):=by
  rw[←wG];exact Kb (λk=>(k:Int)) _ _ _ (λk hk _=>by
   have hf:=g5 _ (iaa hk);unfold Xf HC xr;rw[if_pos (by omega),Ba hk,aaa,ql (by omega),aaa,np g3 (oaa _),aaa,np gd (by omega),Oa,aaa,caa hk,wid (n:=200+(k:Int)) (by omega) (by omega),xa (by omega),wab];dsimp only;generalize x.Defs[k]=f;cases Ri f.Name
   .rfl
   cases x.Inputs.any λy=>decide (y.Name=f.Name)
   .cases (x.Defs.take k).any λy=>decide (y.Name=f.Name)
    .cases ja f.Type_ l.Enums<;>rfl
    .rfl
   .rfl) (λ_=>by grind[Xf])
 grind[Vb]
theorem xy{l:GLaw}(h:LawOk l) {i:Nat}(hi:i<l.Scopes.length):lj l (i:Int)=some (if(kg l i l.Scopes[i]).1=0 then⟨0,0,0,0⟩else cH i (kg l i l.Scopes[i])):=by
 obtain⟨g1,g2,g3,g4,g5,g6⟩:=h.s _ (iaa hi);have hne:=h.ne;have hnt:=h.nt;have hns:=h.ns;have hF:=wy h hi;have hR:=λ{k:Nat} (hk:k<l.Scopes[i].Rules.length)=>Nz h hi hk;unfold lj kg;rw[Ba hi,aaa];generalize l.Scopes[i]=x at g1 g2 g3 g4 g5 g6 hF hR⊢;have gd:=g2.defs;have gr:=g2.rules;rw[ql (by omega),aaa,HZ h (by omega),aaa];cases Ri x.Name
 .rfl
 simp only[saa,if_false];cases (l.Enums.any λy=>decide (y.Name=x.Name)) || ((l.Tables.any λy=>decide (y.Name=x.Name)) || (l.Scopes.take i).any λy=>decide (y.Name=x.Name))
 .simp only[haa,if_false];rw[xP (l:=l) (x:=x) hi rfl,aaa];cases gy l i x
  .simp only[haa,if_false];by_cases hI:12<x.Inputs.length
   .rw[if_pos (by omega),if_pos hI];rfl
   rw[if_neg (by omega),if_neg hI];by_cases hD:12<x.Defs.length
   .rw[if_pos (by omega),if_pos hD];rfl
   rw[if_neg (by omega),if_neg hD,hF,aaa];have l3:fa (rf l (i:Int) x) 0=some (Vb () ((ff (UE l x) x.Rules.length).map (cH i))):=by
    rw[←wG];exact Kb (λk=>(k:Int)) _ _ _ (λk hk _=>by
     unfold rf UE;rw[if_pos (by omega),hR hk,aaa,caa hk,wid (n:=300+(k:Int)) (by omega) (by omega),xa (by omega)];dsimp only;by_cases hz:AB x (js l x) k x.Rules[k]=0
     .rw[if_neg (by omega),if_pos hz];rfl
     .rw[if_pos hz,if_neg hz];rfl) (λ_=>by grind[rf])
   have l4:fa (qf (i:Int) x) 0=some (Vb () ((ff (HB x) x.Defs.length).map (cH i))):=by
    rw[←wG];exact Kb (λk=>(k:Int)) _ _ _ (λk hk _=>by
     have q3:=λy=>PK (s:=x) (d:=(k:Int)) (y:=y);have q2:=(aA x (k:Int) x.Defs.length).len;have l5:fa (Zf (i:Int) (k:Int) (Iy x (k:Int) x.Defs.length)) 0=some (Vb () (ff (λj=>if((Iy x (k:Int) x.Defs.length)[j]?.any λy=>decide (y=(k:Int)))=true then some (Ex.ret (cH i (9,200+(k:Int))))else none) (Iy x (k:Int) x.Defs.length).length)):=
      Kb (λj=>(j:Int)) _ _ _ (λj hj _=>by
       unfold Zf;rw[if_pos (by omega),Ba hj,aaa,caa hj,wid (n:=200+(k:Int)) (by omega) (by omega),xa (by omega)];simp only[Yaa,decide_eq_true_eq];by_cases he:(Iy x (k:Int) x.Defs.length)[j]=(k:Int)
       .rw[if_pos he,if_pos he];rfl
       .rw[if_neg he,if_neg he];rfl) (λ_=>by grind[Zf])
     unfold qf HB;rw[if_pos (by omega),uy g2,aaa,l5,aaa,xa (by omega)];have hany:=Wk (l:=Iy x (k:Int) x.Defs.length) (q:=λy=>decide (y=(k:Int))) (g:=λ_=>(Ex.ret (cH i (9,200+(k:Int))):Ex Int Unit GLawError))
     cases h2:ff (λj=>if((Iy x (k:Int) x.Defs.length)[j]?.any λy=>decide (y=(k:Int)))=true then some (Ex.ret (cH i (9,200+(k:Int))):Ex Int Unit GLawError)else none) (Iy x (k:Int) x.Defs.length).length with
     |none=>
      rw[h2]at hany;rw[if_neg]
      .rfl
      grind
     |some v=>
      rw[h2]at hany;obtain⟨y,hy,hyk⟩:=iad.1 hany.symm;have:y=(k:Int):=by simp_all
      subst this;rw[if_pos ((q3 _).1 hy)];obtain⟨j,-,j2,-⟩:=Ta.1 h2;split at j2
      .injection j2 with j2;subst j2;rfl
      simp_all) (λ_=>by grind[qf])
   cases hf1:ff (vM l x) x.Inputs.length with
   |some v=>
    have:=VC (f:=vM l x) fP hf1
    simp_all[cH]
   |none=>
    dsimp only
    cases hf2:ff (HC l x) x.Defs.length with
    |some v=>
     have:=VC (f:=HC l x) uK hf2
     simp_all[cH]
    |none=>
     dsimp only;rw[if_neg (by simp),l3]
     cases hf3:ff (UE l x) x.Rules.length with
     |some v=>
      have:=VC (f:=UE l x) fL hf3
      simp_all[Vb]
     |none=>
      simp only[Option.map_none,Vb,aaa];rw[l4]
      cases hf4:ff (HB x) x.Defs.length with
      |some v=>
       have:=VC (f:=HB x) cS hf4
       simp_all[Vb]
      |none=>rfl
  .rfl
 .rfl
noncomputable def Ol(l:GLaw):GLawError:=
 if 8<l.Enums.length then⟨4,1,8,0⟩
 else match ff (λi=>match l.Enums[i]? with|some x=>if(bf l i x).1=0 then none else some (⟨(bf l i x).1,1,(i:Int),(bf l i x).2⟩:GLawError)|none=>none) l.Enums.length with
  |some v=>v
  |none=>
   if 8<l.Tables.length then⟨4,2,8,0⟩
   else match ff (λi=>match l.Tables[i]? with|some x=>if(Sm l i x).1=0 then none else some (⟨(Sm l i x).1,2,(i:Int),(Sm l i x).2⟩:GLawError)|none=>none) l.Tables.length with
    |some v=>v
    |none=>
     if 4<l.Scopes.length then⟨4,3,4,0⟩
     else(ff (λi=>match l.Scopes[i]? with|some x=>if(kg l i x).1=0 then none else some (cH i (kg l i x))|none=>none) l.Scopes.length).getD ⟨0,0,0,0⟩
theorem kC{f:Nat->Option GLawError}(hf:∀{k v},f k=some v->v.Code≠0) {n:Nat}{v:GLawError}(h:ff f n=some v):v.Code≠0:=by
 grind[Ta]
theorem CO{l:GLaw}{k:Nat}{v:GLawError}(h:(match l.Enums[k]? with|some x=>if(bf l k x).1=0 then none else some (⟨(bf l k x).1,1,(k:Int),(bf l k x).2⟩:GLawError)|none=>none)=some v):v.Code≠0:=by
 grind
theorem fR{l:GLaw}{k:Nat}{v:GLawError}(h:(match l.Tables[k]? with|some x=>if(Sm l k x).1=0 then none else some (⟨(Sm l k x).1,2,(k:Int),(Sm l k x).2⟩:GLawError)|none=>none)=some v):v.Code≠0:=by
 grind
theorem sD{l:GLaw}(h:LawOk l):fo l=some (Ol l):=by
 have hne:=h.ne;have hnt:=h.nt;have hns:=h.ns;have le:fa (Ih l) 0=some (Vb () (ff (λi=>match l.Enums[i]? with|some x=>if(bf l i x).1=0 then none else some (⟨(bf l i x).1,1,(i:Int),(bf l i x).2⟩:GLawError)|none=>none) l.Enums.length)):=
  Kb (λk=>(k:Int)) _ _ _ (λk hk _=>by
   unfold Ih;rw[if_pos (by omega),Ba hk,aaa,NB h hk,aaa,caa hk,xa (by omega)];dsimp only;by_cases hz:(bf l k l.Enums[k]).1=0
   .rw[if_neg (by omega),if_pos hz];rfl
   .rw[if_pos hz,if_neg hz];rfl) (λ_=>by grind[Ih])
 have ls:fa (Lg l) 0=some (Vb () (ff (λi=>match l.Scopes[i]? with|some x=>if(kg l i x).1=0 then none else some (cH i (kg l i x))|none=>none) l.Scopes.length)):=
  Kb (λk=>(k:Int)) _ _ _ (λk hk _=>by
   unfold Lg;rw[if_pos (by omega),BA h hk,aaa,caa hk,xa (by omega)];dsimp only;by_cases hz:(kg l k l.Scopes[k]).1=0
   .rw[if_neg (by omega),if_pos hz];rfl
   .rw[if_pos hz,if_neg hz];rfl) (λ_=>by grind[Lg])
 unfold fo jo Xm Wm Ol;by_cases h8:8<l.Enums.length
 .grind
 rw[if_neg (by omega),if_neg h8,le]
 cases hf1:ff (λi=>match l.Enums[i]? with|some x=>if(bf l i x).1=0 then none else some (⟨(bf l i x).1,1,(i:Int),(bf l i x).2⟩:GLawError)|none=>none) l.Enums.length with
 |some v=>
  have:=kC (f:=λi=>match l.Enums[i]? with|some x=>if(bf l i x).1=0 then none else some (⟨(bf l i x).1,1,(i:Int),(bf l i x).2⟩:GLawError)|none=>none) CO hf1
  simp_all[Vb]
 |none=>
  simp only[Vb,aaa];rw[if_neg (by simp)];by_cases h8:8<l.Tables.length
  .grind
  rw[if_neg (by omega),if_neg h8,xM h]
  cases hf2:ff (λi=>match l.Tables[i]? with|some x=>if(Sm l i x).1=0 then none else some (⟨(Sm l i x).1,2,(i:Int),(Sm l i x).2⟩:GLawError)|none=>none) l.Tables.length with
  |some v=>
   have:=kC (f:=λi=>match l.Tables[i]? with|some x=>if(Sm l i x).1=0 then none else some (⟨(Sm l i x).1,2,(i:Int),(Sm l i x).2⟩:GLawError)|none=>none) fR hf2
   simp_all[Vb]
  |none=>
   simp only[Vb,aaa];rw[if_neg (by simp)];by_cases h8:4<l.Scopes.length
   .grind
   rw[if_neg (by omega),if_neg h8,ls];cases ff (λi=>match l.Scopes[i]? with|some x=>if(kg l i x).1=0 then none else some (cH i (kg l i x))|none=>none) l.Scopes.length<;>rfl
theorem KA{l:GLaw}(h:LawOk l):Gl l=some (Ol l):=by
 have hne:=h.ne;have hnt:=h.nt;have hns:=h.ns;have le:fa (ei l) 0=some (Vb () (ff (λi=>match l.Enums[i]? with|some x=>if(bf l i x).1=0 then none else some (⟨(bf l i x).1,1,(i:Int),(bf l i x).2⟩:GLawError)|none=>none) l.Enums.length)):=
  Kb (λk=>(k:Int)) _ _ _ (λk hk _=>by
   unfold ei;rw[if_pos (by omega),Lz h hk,aaa,caa hk,xa (by omega)];dsimp only;by_cases hz:(bf l k l.Enums[k]).1=0
   .rw[if_pos hz,if_neg (by simp),if_pos hz];rfl
   .rw[if_neg hz,if_pos (by omega),if_neg hz];rfl) (λ_=>by grind[ei])
 have lt:fa (di l) 0=some (Vb () (ff (λi=>match l.Tables[i]? with|some x=>if(Sm l i x).1=0 then none else some (⟨(Sm l i x).1,2,(i:Int),(Sm l i x).2⟩:GLawError)|none=>none) l.Tables.length)):=
  Kb (λk=>(k:Int)) _ _ _ (λk hk _=>by
   unfold di;rw[if_pos (by omega),yy h hk,aaa,caa hk,xa (by omega)];dsimp only;by_cases hz:(Sm l k l.Tables[k]).1=0
   .rw[if_pos hz,if_neg (by simp),if_pos hz];rfl
   .rw[if_neg hz,if_pos (by omega),if_neg hz];rfl) (λ_=>by grind[di])
 have ls:fa (ai l) 0=some (Vb () (ff (λi=>match l.Scopes[i]? with|some x=>if(kg l i x).1=0 then none else some (cH i (kg l i x))|none=>none) l.Scopes.length)):=
  Kb (λk=>(k:Int)) _ _ _ (λk hk _=>by
   unfold ai;rw[if_pos (by omega),xy h hk,aaa,caa hk,xa (by omega)];dsimp only;by_cases hz:(kg l k l.Scopes[k]).1=0
   .rw[if_pos hz,if_neg (by simp),if_pos hz];rfl
   .rw[if_neg hz,if_pos (by grind[cH]),if_neg hz];rfl) (λ_=>by grind[ai])
 unfold Gl Ol;by_cases h8:8<l.Enums.length
 .grind
 rw[if_neg (by omega),if_neg h8,le]
 cases ff (λi=>match l.Enums[i]? with|some x=>if(bf l i x).1=0 then none else some (⟨(bf l i x).1,1,(i:Int),(bf l i x).2⟩:GLawError)|none=>none) l.Enums.length with
 |some v=>rfl
 |none=>
  simp only[Vb,aaa];by_cases h8:8<l.Tables.length
  .grind
  rw[if_neg (by omega),if_neg h8,lt]
  cases ff (λi=>match l.Tables[i]? with|some x=>if(Sm l i x).1=0 then none else some (⟨(Sm l i x).1,2,(i:Int),(Sm l i x).2⟩:GLawError)|none=>none) l.Tables.length with
  |some v=>rfl
  |none=>
   simp only[Vb,aaa];by_cases h8:4<l.Scopes.length
   .grind
   rw[if_neg (by omega),if_neg h8,ls];cases ff (λi=>match l.Scopes[i]? with|some x=>if(kg l i x).1=0 then none else some (cH i (kg l i x))|none=>none) l.Scopes.length<;>rfl
structure Valid (l:GLaw):Prop where
 e:∀i (h:i<l.Enums.length),(bf l i l.Enums[i]).1=0
 t:∀i (h:i<l.Tables.length),(Sm l i l.Tables[i]).1=0
 s:∀i (h:i<l.Scopes.length),(kg l i l.Scopes[i]).1=0
 ne:l.Enums.length<=8
 nt:l.Tables.length<=8
 ns:l.Scopes.length<=4
theorem xu{l:GLaw}(h:(Ol l).Code=0):Valid l:=by
 unfold Ol at h;split at h
 .grind
 rename_i h1;split at h
 .rename_i v hv;exact(kC (f:=λi=>match l.Enums[i]? with|some x=>if(bf l i x).1=0 then none else some (⟨(bf l i x).1,1,(i:Int),(bf l i x).2⟩:GLawError)|none=>none) CO hv h).elim
 rename_i he;split at h
 .grind
 rename_i h2;split at h
 .rename_i v hv;exact(kC (f:=λi=>match l.Tables[i]? with|some x=>if(Sm l i x).1=0 then none else some (⟨(Sm l i x).1,2,(i:Int),(Sm l i x).2⟩:GLawError)|none=>none) fR hv h).elim
 rename_i ht;split at h
 .grind
 rename_i h3;refine⟨λi hi=>?_,λi hi=>?_,λi hi=>?_,by omega,by omega,by omega⟩
 .grind[Xb]
 .grind[Xb]
 .generalize hf:ff _ l.Scopes.length=o at h
  cases o with
  |some v=>
   rw[Uab]at h;obtain⟨k,k1,k2,-⟩:=Ta.1 hf;rw[caa k1]at k2;dsimp only at k2;split at k2
   .grind
   .rename_i hne;injection k2 with k2;subst k2;exact(hne h).elim
  |none=>
   grind[Xb]
theorem Valid.mem{l:GLaw}(h:Valid l):∀x∈l.Enums,x.Members.length<=16:=by
 intro x hx;obtain⟨i,hi,rfl⟩:=Aaa hx;have:=h.e i hi
 grind[bf]
theorem Valid.rows{l:GLaw}(h:Valid l):∀x∈l.Tables,x.Rows.length<=64:=by
 intro x hx;obtain⟨i,hi,rfl⟩:=Aaa hx;have:=h.t i hi
 grind[Sm,Io]
theorem gC{n:Nat}(hn:n<=1048576) (bad:Nat->Bool) {step:Int->Option (Ex Int Unit Bool)}(hstep:∀i:Nat,i<n->step (i:Int)=if bad i=true then some (.ret false)else some (.go (ea .i64 ((i:Int)+1)))) (hend:step (n:Int)=some (.brk ())) :
 (fa step 0=some (.inr false))\/(fa step 0=some (.inl ())/\∀i,i<n->bad i=false):=by
 have h:=Kb (step:=step) (x0:=0) (λi=>(i:Int)) (λi=>if bad i=true then some false else none) n () (λi hi _=>by
  rw[hstep i hi,xa (by omega)];cases bad i<;>rfl) (λ_=>hend)
 cases hf:ff (λi=>if bad i=true then some false else none) n with
 |none=>
  right;rw[hf]at h;refine⟨h,λi hi=>?_⟩
  grind[Xb]
 |some v=>
  left;rw[hf]at h;obtain⟨k,-,k2,-⟩:=Ta.1 hf;split at k2
  .injection k2 with k2;subst k2;exact h
  simp_all
structure SmallSc (s:GScope):Prop where
 nm:s.Name.size<=80
 ins:s.Inputs.length<=14
 defs:s.Defs.length<=14
 rules:s.Rules.length<=60
 i:∀f∈s.Inputs,f.Name.size<=80
 d:∀f∈s.Defs,f.Name.size<=80
 r:∀r∈s.Rules,r.Name.size<=80/\r.Source.size<=80/\r.Guard.length<=50/\r.Value.length<=50
theorem Wz(s:GScope):∃b,Rf s=some b/\(b=true->SmallSc s):=by
 unfold Rf;by_cases h1:80<(s.Name.size:Int)
 .simp_all
 by_cases h2:14<(s.Inputs.length:Int)
 .simp_all
 by_cases h3:14<(s.Defs.length:Int)
 .simp_all
 by_cases h4:60<(s.Rules.length:Int)
 .simp_all
 have hc:(if¬80<(s.Name.size:Int)then if¬14<(s.Inputs.length:Int)then if¬14<(s.Defs.length:Int)then some (decide (60<(s.Rules.length:Int)))else some true else some true else some true)=some false:=by
  simp_all
 rw[hc,aaa,if_neg (by simp)];rcases gC (n:=s.Inputs.length) (by omega) (λi=>match s.Inputs[i]? with|some f=>decide (80<(f.Name.size:Int))|none=>false) (step:=gh s) (λi hi=>by
  simp_all[gh,Ba]) (by grind[gh])with k|⟨k,k1⟩
 .simp_all
 rw[k,aaa];dsimp only;rcases gC (n:=s.Defs.length) (by omega) (λi=>match s.Defs[i]? with|some f=>decide (80<(f.Name.size:Int))|none=>false) (step:=fh s) (λi hi=>by
  simp_all[fh,Ba]) (by grind[fh])with k|⟨k,k2⟩
 .simp_all
 rw[k,aaa];dsimp only;rcases gC (n:=s.Rules.length) (by omega) (λi=>match s.Rules[i]? with|some r=>decide (80<(r.Name.size:Int)\/80<(r.Source.size:Int)\/50<(r.Guard.length:Int)\/50<(r.Value.length:Int))|none=>false) (step:=dh s) (λi hi=>by
  unfold dh;rw[if_pos (by omega),Ba hi,aaa,caa hi]
  grind) (by grind[dh])with k|⟨k,k3⟩
 .simp_all
 rw[k,aaa];refine⟨true,rfl,λ_=>⟨by omega,by omega,by omega,by omega,?_,?_,?_⟩⟩
 .intro f hf;obtain⟨i,hi,rfl⟩:=Aaa hf
  grind
 .intro f hf;obtain⟨i,hi,rfl⟩:=Aaa hf
  grind
 .intro r hr;obtain⟨i,hi,rfl⟩:=Aaa hr
  grind
def Ay(l:GLaw):Nat->Int
 |0=>0
 |k+1=>match l.Tables[k]? with|some t=>ea .i64 (Ay l k+(t.Rows.length:Int))|none=>Ay l k
structure SmallL (l:GLaw):Prop where
 ne:l.Enums.length<=9
 nt:l.Tables.length<=9
 ns:l.Scopes.length<=5
 e:∀x∈l.Enums,x.Name.size<=80/\x.Members.length<=20/\∀m∈x.Members,m.size<=80
 t:∀x∈l.Tables,x.Name.size<=80
 s:∀x∈l.Scopes,SmallSc x
 rt:∀i,i<l.Tables.length->Ay l (i+1)<=150
def Ow(l:GLaw):Nat->Int
 |0=>0
 |k+1=>match l.Scopes[k]? with|some t=>ea .i64 (Ow l k+(t.Rules.length:Int))|none=>Ow l k
def FO(l:GLaw) (i:Nat):Bool:=match l.Enums[i]? with|some x=>decide (80<(x.Name.size:Int)) || decide (20<(x.Members.length:Int)) || (x.Members.any λm=>decide (80<(m.size:Int)))|none=>false
theorem IH{l:GLaw}{i:Nat}(hi:i<l.Enums.length):FO l i=(decide (80<(l.Enums[i].Name.size:Int)) || decide (20<(l.Enums[i].Members.length:Int)) || (l.Enums[i].Members.any λm=>decide (80<(m.size:Int)))):=by
 grind[FO]
theorem vv(l:GLaw):∃b,xk l=some b/\(b=true->SmallL l):=by
 unfold xk;by_cases h1:9<(l.Enums.length:Int)
 .simp_all
 by_cases h2:9<(l.Tables.length:Int)
 .simp_all
 by_cases h3:5<(l.Scopes.length:Int)
 .simp_all
 have hc:(if¬9<(l.Enums.length:Int)then if¬9<(l.Tables.length:Int)then some (decide (5<(l.Scopes.length:Int)))else some true else some true)=some false:=by
  simp_all
 rw[hc,aaa,if_neg (by simp)];have hin:∀i (hi:i<l.Enums.length),l.Enums[i].Members.length<=20->fa (Ag l (i:Int)) 0=some (if(l.Enums[i].Members.any λm=>decide (80<(m.size:Int)))=true then .inr (.ret false)else .inl ()):=by
  intro i hi hm;have h:=Kb (step:=Ag l (i:Int)) (x0:=0) (λk=>(k:Int)) (λk=>if(l.Enums[i].Members[k]?.any λm=>decide (80<(m.size:Int)))=true then some (Ex.ret false)else none) l.Enums[i].Members.length () (λk hk _=>by
   unfold Ag;rw[Ba hi,aaa,if_pos (by omega),Ba hk,aaa,caa hk,xa (by omega)];simp only[Yaa,decide_eq_true_eq];by_cases hb:80<(l.Enums[i].Members[k].size:Int)
   .rw[if_pos hb,if_pos hb];rfl
   .rw[if_neg hb,if_neg hb];rfl) (λ_=>by simp_all[Ag,Ba])
  rw[h,←Wk (g:=λ_=>(Ex.ret false:Ex Int Unit Bool))]
  cases hf:ff (λk=>if(l.Enums[i].Members[k]?.any λm=>decide (80<(m.size:Int)))=true then some (Ex.ret false:Ex Int Unit Bool)else none) l.Enums[i].Members.length with
  |none=>rfl
  |some v=>
   obtain⟨k,-,k2,-⟩:=Ta.1 hf;split at k2
   .injection k2 with k2;subst k2;rfl
   simp_all
 rcases gC (n:=l.Enums.length) (by omega) (FO l) (step:=oi l) (λi hi=>by
  have hin:=hin i hi;unfold oi;rw[if_pos (by omega),Ba hi,aaa,IH hi]
  grind) (by grind[oi])with k|⟨k,k1⟩
 .simp_all
 rw[k,aaa];dsimp only;have hT:=Kb (step:=ni l) (x0:=(0,0)) (λi=>(Ay l i,(i:Int))) (λi=>match l.Tables[i]? with|some x=>if(decide (80<(x.Name.size:Int)) || decide (150<Ay l (i+1)))=true then some false else none|none=>none) l.Tables.length () (λi hi _=>by
  unfold ni;simp only[Ay,caa hi];rw[if_pos (by omega),Ba hi,aaa,xa (by omega)]
  grind[lC]) (λ_=>by grind[ni])
 rw[hT,aaa]
 cases hf:ff (λi=>match l.Tables[i]? with|some x=>if(decide (80<(x.Name.size:Int)) || decide (150<Ay l (i+1)))=true then some false else none|none=>none) l.Tables.length with
 |some v=>
  refine⟨false,?_,by simp⟩;obtain⟨j,j1,j2,-⟩:=Ta.1 hf;rw[caa j1]at j2;dsimp only at j2;split at j2
  .injection j2 with j2;subst j2;rfl
  simp_all
 |none=>
  have ht2:=Xb.1 hf;dsimp only[Vb];have hS:=Kb (step:=mi l) (x0:=(0,0)) (λi=>(Ow l i,(i:Int))) (λi=>match l.Scopes[i]? with|some x=>if(decide (60<Ow l (i+1)) || !((Rf x).getD true))=true then some false else none|none=>none) l.Scopes.length () (λi hi _=>by
   unfold mi;simp only[Ow,caa hi];rw[if_pos (by omega),Ba hi,aaa,xa (by omega)];obtain⟨b,hb,-⟩:=Wz l.Scopes[i]
   grind[lC]) (λ_=>by grind[mi])
  rw[hS,aaa]
  cases hf2:ff (λi=>match l.Scopes[i]? with|some x=>if(decide (60<Ow l (i+1)) || !((Rf x).getD true))=true then some false else none|none=>none) l.Scopes.length with
  |some v=>
   refine⟨false,?_,by simp⟩;obtain⟨j,j1,j2,-⟩:=Ta.1 hf2;rw[caa j1]at j2;dsimp only at j2;split at j2
   .injection j2 with j2;subst j2;rfl
   simp_all
  |none=>
   have hs2:=Xb.1 hf2;refine⟨true,rfl,λ_=>⟨by omega,by omega,by omega,?_,?_,?_,λi hi=>?_⟩⟩
   .intro x hx;obtain⟨i,hi,rfl⟩:=Aaa hx
    grind[IH]
   .intro x hx;obtain⟨i,hi,rfl⟩:=Aaa hx
    grind
   .intro x hx;obtain⟨i,hi,rfl⟩:=Aaa hx;have:=hs2 i hi;rw[caa hi]at this;dsimp only at this;split at this
    .cases this
    .rename_i hn;obtain⟨b,hb,hb2⟩:=Wz l.Scopes[i]
     simp_all
   simp_all
def fH(l:GLaw):Prop:=∀s∈l.Scopes,∀r∈s.Rules,(∀n∈r.Guard,xb n)/\∀n∈r.Value,xb n
theorem SmallL.ok{l:GLaw}(h:SmallL l) (ht:fH l):LawOk l:=by
 have hne:=h.ne;have hnt:=h.nt;have hns:=h.ns;refine⟨by omega,by omega,by omega,λx hx=>?_,λx hx=>?_,λx hx=>?_⟩
 .obtain⟨a,b,c⟩:=h.e x hx
  grind
 .have:=h.t x hx;omega
 .obtain⟨a,b,c,d,e,f,g⟩:=h.s x hx;refine⟨by omega,⟨by omega,by omega,λr hr=>by grind⟩,by omega,λq hq=>by grind,λq hq=>by grind,λr hr=>?_⟩;have:=g r hr;obtain⟨t1,t2⟩:=ht x hx r hr
  grind
end Go.Proofs.Dev
