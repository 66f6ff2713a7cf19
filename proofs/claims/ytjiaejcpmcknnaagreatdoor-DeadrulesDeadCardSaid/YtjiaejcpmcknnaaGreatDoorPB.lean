/-
  The functions as plain partial functions, and plain lemmas about them: no condition.
-/
import Derived.Test.YtjiaejcpmcknnaaGreatDoorPA
open Bool renaming and_false->gad,false_and->had,false_eq_true->maa,not_eq_true->Aad,not_false->rac,not_true->Oab,or_false->qad,true_and->Zaa,true_eq_false->waa
open ByteArray renaming empty->Fac,mk->iaa
open Classical renaming not_forall->fad,not_imp->vad
open Int renaming natAbs_tdiv->Ead,reduceBEq->oaa,reduceEq->naa,tdiv->Faa,tdiv_nonneg->Gac,tmod->Qaa,tmod_nonneg->Fad
open List renaming any_eq_true->Bad,cons_append->Naa,eq_nil_of_length_eq_zero->Caa,filter_append->rab,foldl_cons->sab,getElem?_eq_getElem->faa,getElem_mem->laa,getElem_of_mem->Daa,getElem_take->mac,length_filter_le->gab,mem_cons->oab,mem_filter->vac,mem_map->hac,mem_of_mem_drop->qac,mem_singleton->uab,nodup_cons->Had,pairwise_cons->vab,range->yaa,replicate->jaa,take_add_one->Raa,take_length->Nab
open Nat renaming add_zero->kac,le_refl->saa,le_trans->yab
open Option renaming any_some->dab,bind->eaa,bind_some->daa,getD_some->cac,isSome_iff_exists->Vab
open Option.some renaming inj->Iaa,injEq->Laa
set_option linter.all false
namespace Go.Tm
variable {α β ρ σ:Type}
theorem wid{n:Int}(h1:-9223372036854775808<=n) (h2:n<9223372036854775808):da .i64 n=n:=by
 grind[da,fG]
theorem ya{i:Nat}(h:i<4611686018427387904):da .i64 ((i:Int)+1)=((i+1:Nat):Int):=by
 grind[wid]
theorem Aa{l:List α}{i:Nat}(h:i<l.length):idx l (i:Int)=some l[i]:=by
 grind[idx]
theorem tI{l:List α}{i:Nat}:idx l (i:Int)=l[i]?:=by
 simp[idx]
theorem Ij{l:List α}{i:Int}(h1:0<=i) (h2:i<l.length):idx l i=some (l[i.toNat]'(by omega)):=by
 simp_all[idx]
theorem aG{b:ByteArray}{i:Nat}(h:i<b.size):Cs b (i:Int)=some (b[i].toNat:Int):=by
 simp_all[Cs]
theorem xu{l:List α}{i:Nat}(h:i<=l.length):Fs l (i:Int)=some (l.take i):=by
 simp_all[Fs]
theorem HW{l:List α}{i:Nat}(h:i<=l.length):gC l (i:Int)=some (l.drop i):=by
 simp_all[gC]
theorem Hf{b:Nat}{l r:List α}(h:(l.length+r.length)*b<=140737488355328):app b l r=some (l++r):=if_pos (by omega)
theorem ry{l:List α}{i:Nat}{x:α}(h:i<l.length):put l (i:Int) x=some (l.set i x):=by
 simp_all[put]
theorem GA{b n:Nat}{x:α}(h:n*b<=281474976710656) (h2:n<=4611686018427387904):GD b x (n:Int) (n:Int)=some (jaa n x):=by
 grind[GD]
def ff(f:Nat->Option ρ):Nat->Option ρ
 |0=>none
 |n+1=>match f 0 with|some v=>some v|none=>ff (λi=>f (i+1)) n
theorem jI{f g:Nat->Option ρ}:∀{n:Nat},(∀i,i<n->f i=g i)->ff f n=ff g n
 |0,_=>rfl
 |n+1,h=>by
  simp only[ff,h 0 (by omega)];rw[jI (n:=n) (f:=λi=>f (i+1)) (g:=λi=>g (i+1)) λi hi=>h (i+1) (by omega)]
theorem Ob{f:Nat->Option ρ}:∀{n:Nat},ff f n=none↔∀i,i<n->f i=none
 |0=>by simp[ff]
 |n+1=>by
  simp only[ff];constructor
  .intro h i hi
   cases h0:f 0 with
   |some v=>simp_all
   |none=>
    simp only[h0]at h
    cases i with
    |zero=>omega
    |succ i=>exact(Ob (f:=λi=>f (i+1))).1 h i (by omega)
  .intro h;rw[h 0 (by omega)];exact Ob.2 λi hi=>h (i+1) (by omega)
theorem Sa{f:Nat->Option ρ}{v:ρ}:∀{n:Nat},ff f n=some v↔∃i,i<n/\f i=some v/\∀j,j<i->f j=none
 |0=>by simp[ff]
 |n+1=>by
  simp only[ff];constructor
  .intro h
   cases h0:f 0 with
   |some w=>grind
   |none=>
    simp only[h0]at h;obtain⟨i,h1,h2,h3⟩:=(Sa (f:=λi=>f (i+1))).1 h;exact⟨i+1,by omega,h2,λj hj=>by cases j with|zero=>omega|succ j=>simp_all⟩
  .rintro⟨i,h1,h2,h3⟩
   cases i with
   |zero=>rw[h2]
   |succ i=>
    rw[h3 0 (by omega)];exact Sa.2 ⟨i,by omega,h2,λj hj=>h3 (j+1) (by omega)⟩
def Mb(b:β):Option ρ->β⊕ρ
 |none=>.inl b
 |some v=>.inr v
def pD(s:σ):Option ρ->Ex σ β ρ
 |none=>.go s
 |some v=>.ret v
theorem jK{b:β}:Mb b (none:Option ρ)=.inl b:=rfl
theorem kK{b:β}{v:ρ}:Mb b (some v)=.inr v:=rfl
theorem Lb{step:σ->Option (Ex σ β ρ)}{x0:σ}(S:Nat->σ) (f:Nat->Option ρ) (n:Nat) (b:β)
 (hgo:∀i,i<n->(∀j,j<i->f j=none)->step (S i)=some (pD (S (i+1)) (f i))) (hend:(∀j,j<n->f j=none)->step (S n)=some (.brk b)) (h0:x0=S 0:=by rfl) :
 fa step x0=some (Mb b (ff f n)):=by
 have key:∀k i,i+k=n->(∀j,j<i->f j=none)->fa step (S i)=some (Mb b (ff (λj=>f (i+j)) k)):=by
  intro k
  induction k with
  |zero=>
   intro i hi hf;rw[kac]at hi;subst hi;rw[Wf (hend hf)];rfl
  |succ k ih=>
   intro i hi hf;have hs:=hgo i (by omega) hf;simp only[ff,kac]
   cases h0:f i with
   |some v=>
    rw[h0]at hs;rw[ku hs];rfl
   |none=>
    rw[h0]at hs;rw[kl hs,ih (i+1) (by omega) λj hj=>by grind]
    grind
 simp_all
theorem Xc{step:σ->Option (Ex σ β ρ)}{x0:σ}(S:Nat->σ) (n:Nat) (b:β) (hgo:∀i,i<n->step (S i)=some (.go (S (i+1)))) (hend:step (S n)=some (.brk b)) (h0:x0=S 0:=by rfl):fa step x0=some (.inl b):=by
 have key:∀k i,i+k=n->fa step (S i)=some (.inl b):=by
  intro k
  induction k with
  |zero=>simp_all[Wf]
  |succ k ih=>grind[kl]
 simp_all
theorem MY{l:List α}{p:α->Option Bool}(q:α->Bool) (hp:∀x∈l,p x=some (q x)) (hl:l.length<4611686018427387904) :
 fa (λ(s:Int)=>if s<(l.length:Int)then(idx l s).bind λx=>(p x).bind λc=>if c=true then some (Ex.ret s)else some (Ex.go (da .i64 (s+1)))else some (Ex.brk ())) 0
  = some (Mb () (ff (λi=>if(l[i]?.any q)=true then some (i:Int)else none) l.length)):=by
 refine Lb (λi=>(i:Int)) _ l.length () (λi hi _=>?_) (λ_=>?_)
 .rw[if_pos (by omega),Aa hi,daa,hp _ (laa hi),daa,wid (by omega) (by omega)]
  grind[pD]
 simp
theorem ym{l:List α}{q:α->Bool}{g:Nat->ρ}:(ff (λi=>if(l[i]?.any q)=true then some (g i)else none) l.length).isSome=l.any q:=by
 rw[Bool.eq_iff_iff,Vab,Bad];constructor
 .grind[Sa]
 .rintro⟨x,hx,hq⟩;rw[←Vab,←Option.not_isNone,Bool.not_eq_true',Option.isNone_eq_false_iff,Option.isSome_iff_ne_none];intro hn;obtain⟨i,hi,rfl⟩:=Daa hx
  grind[Ob]
theorem rn{l:List α}{p:α->Option Bool}(q:α->Bool) (hp:∀x∈l,p x=some (q x)) (hl:l.length<4611686018427387904) {o:Option (Unit⊕Int)}
 (ho:o=fa (λ(s:Int)=>if s<(l.length:Int)then(idx l s).bind λx=>(p x).bind λc=>if c=true then some (Ex.ret s)else some (Ex.go (da .i64 (s+1)))else some (Ex.brk ())) 0) :
 ((o.bind λy=>match y with|.inr v=>some v|.inl _=>some (-1)).bind λx=>some (decide (0<=x)))=some (l.any q):=by
 rw[ho,MY q hp hl];rw[←ym (q:=q) (g:=λi=>(i:Int))]
 cases h:ff (λi=>if(l[i]?.any q)=true then some (i:Int)else none) l.length with
 |none=>simp[Mb]
 |some v=>
  grind[Mb,Sa]
end Go.Tm
set_option maxRecDepth 10000
namespace Go.Proofs.Dev
open Go Go.Tm
def LP(c:Int):Bool:=decide (97<=c)&&decide (c<=122)
def LX(c:Int):Bool:=decide (48<=c)&&decide (c<=57)
def kJ(c:Int):Bool:=LP c || LX c || c==95
theorem fw{a b c:Int}:(eaa (if a<=c then some (decide (c<=b))else some false) λj=>some j)=some (decide (a<=c)&&decide (c<=b)):=by
 grind
theorem tv(c:Int):Gm c=some (LP c):=fw
theorem UB(c:Int):Fp c=some (LX c):=fw
theorem Jx(c:Int):dq c=some (LP c):=fw
theorem WE(c:Int):ct c=some (LX c):=fw
theorem XG(c:Int):Pr c=some (kJ c):=by
 grind[Pr,kJ,Jx,WE]
def Mq(s:ByteArray) (i:Nat):Bool:=if h:i<s.size then kJ (s[i].toNat:Int)else false
def Dw(s:ByteArray):Bool:=(ff (λi=>if Mq s i=true then none else some ()) s.size).isNone
theorem Zx{s:ByteArray}(hs:s.size<4611686018427387904):∃n,Ni s=some n/\(n=(s.size:Int)↔Dw s=true):=by
 have hstep:∀i:Nat,i<s.size->Mc s (i:Int)=some (if Mq s i=true then .go ((i+1:Nat):Int)else .brk (i:Int)):=by
  intro i hi;unfold Mc;rw[if_pos (by omega),aG hi,daa];simp only[tv,UB,daa,Mq,dif_pos hi,kJ]
  grind[wid]
 have w1:∀i,(if Mq s i=true then none else some ())=none->Mq s i=true:=λi h=>by
  simp_all
 unfold Ni
 cases h:ff (λi=>if Mq s i=true then none else some ()) s.size with
 |none=>
  have h1:=Ob.1 h;have hl:fa (Mc s) 0=some (.inl (s.size:Int)):=Xc (λi=>(i:Int)) s.size (s.size:Int)
   (λi hi=>by simp_all) (by grind[Mc])
  rw[hl];exact⟨_,rfl,by grind[Dw]⟩
 |some v=>
  obtain⟨k,h1,h2,h3⟩:=Sa.1 h;have hl:fa (Mc s) 0=some (.inl (k:Int)):=Xc (λi=>(i:Int)) k (k:Int)
   (λi hi=>by grind) (by
    simp_all)
  rw[hl];exact⟨_,rfl,by grind[Dw]⟩
noncomputable def QA:List ByteArray:=(Pe).getD []
theorem EP{p:Prop} [Decidable p] {b:Bool}:(if p then some true else some b)=some (decide p || b):=by
 grind
theorem TL{s a:ByteArray}{l:List ByteArray}:((a::l).any λr=>decide (s=r))=(decide (s=a) || (l.any λr=>decide (s=r))):=rfl
theorem aO{s:ByteArray}:(([]:List ByteArray).any λr=>decide (s=r))=false:=rfl
theorem sK(s:ByteArray):Kd s=some (QA.any λr=>decide (s=r)):=by
 unfold Kd QA Pe;simp (config := { maxSteps := 4000000 }) only[cac,TL,aO,EP,daa,qad];simp
theorem rK(s:ByteArray):∃b,Kd s=some b:=by
 unfold Kd;simp (config := { maxSteps := 4000000 }) only[EP,daa];simp
noncomputable def PU(s:ByteArray):Bool:=(Kd s).getD false
theorem dE(s:ByteArray):Kd s=some (PU s):=by
 obtain⟨b,h⟩:=rK s
 grind[PU]
noncomputable def Gi(s:ByteArray):Bool:=if h:0<s.size/\s.size<=16 then LP (s[0].toNat:Int)&&Dw s&&!(PU s)else false
theorem HF{s:ByteArray}:s=iaa #[]↔s.size=0:=by
 constructor
 .rintro rfl;rfl
 .intro h;obtain⟨a⟩:=s;congr 1;exact Array.eq_empty_of_size_eq_zero h
theorem Bn{s:ByteArray}(hs:s.size<4611686018427387904):ib s=some (Gi s):=by
 obtain⟨n,hn,hn2⟩:=Zx hs;unfold ib Gi;by_cases h0:s.size=0
 .simp_all[HF]
 .have hx:Cs s 0=some (s[0].toNat:Int):=aG (i:=0) (by omega);rw[if_pos (by grind[HF]),hx];simp only[daa,tv,hn,hn2,dE]
  grind
theorem ml{s:ByteArray}(hs:s.size<4611686018427387904):jb s=some (Gi s):=by
 unfold jb Gi;by_cases h:0<s.size/\s.size<=16
 .have hx:Cs s 0=some (s[0].toNat:Int):=aG (i:=0) (by omega);have hres:PU s=QA.any λr=>decide (s=r):=Iaa ((dE s).symm.trans (sK s));rw[dif_pos h,if_pos (by omega),if_pos (by omega),hx,hres];simp only[daa,Jx]
  cases hl:LP (s[0].toNat:Int)with
  |false=>simp
  |true=>
   have hl1:fa (ie s) 0=some (Mb () (ff (λi=>if Mq s i=true then none else some false) s.size)):=
    Lb (λi=>(i:Int)) _ s.size () (λi hi _=>by
     unfold ie;rw[if_pos (by omega),aG hi];simp only[daa,XG,Mq,dif_pos hi];rw[wid (by omega) (by omega)];cases kJ (s[i].toNat:Int)<;>rfl) (λ_=>by grind[ie])
   have hR:Pe=some QA:=by grind[QA,Pe]
   have hlen:QA.length=55:=by unfold QA Pe;rfl
   have hl2:fa (fe s QA) 0=some (Mb () (ff (λi=>if(QA[i]?.any λr=>decide (s=r))=true then some false else none) QA.length)):=
    Lb (λi=>(i:Int)) _ QA.length () (λi hi _=>by
     unfold fe;rw[if_pos (by omega),Aa hi,faa hi];simp only[daa,dab,decide_eq_true_eq];rw[wid (by omega) (by omega)];by_cases he:s=QA[i]
     .rw[if_pos he.symm,if_pos he];rfl
     .rw[if_neg (λh=>he h.symm),if_neg he];rfl) (λ_=>by grind[fe])
   simp only[Oab,maa,if_false,hl1,hR,daa];have ha:=ym (l:=QA) (q:=λr=>decide (s=r)) (g:=λ_=>false);have hw:Dw s=(ff (λi=>if Mq s i=true then none else some false) s.size).isNone:=by
    unfold Dw
    cases h1:ff (λi=>if Mq s i=true then none else some ()) s.size with
    |none=>
     grind[Ob]
    |some v=>
     obtain⟨k,k1,k2,k3⟩:=Sa.1 h1
     cases h2:ff (λi=>if Mq s i=true then none else some false) s.size with
     |some _=>rfl
     |none=>
      grind[Ob]
   rw[hw,←ha]
   cases h1:ff (λi=>if Mq s i=true then none else some false) s.size with
   |some v=>
    grind[Mb,Sa]
   |none=>
    simp only[Mb,hl2,daa,Option.isNone_none,Zaa]
    grind[Sa]
 grind
def ja(t:GType) (e:List GEnum):Bool:=
 if t.Kind=6 then decide (0<=t.Enum)&&decide (t.Enum<(e.length:Int))else decide (1<=t.Kind)&&decide (t.Kind<=5)&&(t.Enum==0)
noncomputable def vtX(t0:GType) (t1:List GEnum):Option Bool:=
 if t0.Kind=6 then
  eaa (α:=Bool) (
   if 0<=t0.Enum then
    some (decide (t0.Enum<(t1.length:Int)))
   else
   some false) λj3=>
  some j3
 else
 eaa (α:=Bool) (
  if 1<=t0.Kind then
   if t0.Kind<=5 then
    some (t0.Enum==0)
   else
   some false
  else
  some false) λj6=>
 some j6
theorem IW(t:GType) (e:List GEnum):vtX t e=some (ja t e):=by
 grind[vtX,ja]
theorem La(t:GType) (e:List GEnum):Eb t e=some (ja t e):=IW t e
theorem Ia(t:GType) (e:List GEnum):Hb t e=some (ja t e):=by
 rw[←IW]
 grind[Hb,vtX]
theorem ZL(t:GType) (e:List GEnum):kd t e=Fe t e:=by
 grind[kd,Fe,Ia,La]
theorem aM(t:GType) (e:List GEnum):∃p,kd t e=some p:=by
 unfold kd;rw[Ia,daa]
 cases h:ja t e with
 |false=>simp
 |true=>
  simp only[waa,if_false]
  repeat' split
  all_goals first|exact⟨_,rfl⟩|skip
  have h6:t.Kind=6:=by
   grind[ja]
  unfold ja at h;rw[if_pos h6]at h;simp at h;rw[Ij h.1 h.2];simp
noncomputable def Xg(t:GType) (e:List GEnum):Int×Int:=(kd t e).getD (0,0)
theorem Ol(t:GType) (e:List GEnum):kd t e=some (Xg t e):=by
 obtain⟨p,hp⟩:=aM t e
 grind[Xg]
theorem ql(t:GType) (e:List GEnum):Fe t e=some (Xg t e):=by rw[←ZL,Ol]
noncomputable def X0(n:Int) (t:GType) (e:List GEnum):Bool:=decide ((Xg t e).1<=n)&&decide (n<=(Xg t e).2)
theorem pK(n:Int) (t:GType) (e:List GEnum):Qr n t e=some (X0 n t e):=by
 grind[Qr,X0,ql]
def GN(r:GDateRange):Bool:=decide (0<=r.From)&&(decide (r.From<=r.To)&&decide (r.To<=109573))
theorem Nn(r:GDateRange):pf r=some (GN r):=by
 grind[pf,GN]
theorem Hp(r:GDateRange):Ch r=some (GN r):=by
 grind[Ch,GN]
def pv(a b:GRow):Bool:=GN a.Valid&&GN b.Valid&&decide (max a.Valid.From b.Valid.From<min a.Valid.To b.Valid.To)&&decide (max a.Lo b.Lo<min a.Hi b.Hi)
theorem KA(a b:GRow):Al a b=some (pv a b):=by
 unfold Al Wm pv;simp only[Hp,daa]
 grind
theorem UA(a b:GRow):Ml a b=some (pv a b):=by
 unfold Ml ui qh pv;simp only[Nn,daa];cases GN a.Valid<;>cases GN b.Valid<;>simp only[maa,if_false,if_true,daa,rac,Oab,had,Zaa,gad]
 all_goals grind
noncomputable def AE(x:GRow) (t:GTable) (e:List GEnum):Bool:=
 !(GN x.Valid) || decide (x.Valid.From=x.Valid.To) || decide (x.Hi<=x.Lo) || !(X0 x.Lo t.Key e) || !(X0 (da .i64 (x.Hi-1)) t.Key e) || !(X0 x.N t.Value e)
theorem XE(x:GRow) (t:GTable) (e:List GEnum):iq x t e=some (AE x t e):=by
 unfold iq AE;simp only[Hp,pK,daa]
 grind
noncomputable def gH(t:GTable) (e:List GEnum) (i:Nat):Option (Int×Int):=
 match t.Rows[i]? with
 |some x=>if AE x t e=true then some ((i:Int),3)else if((t.Rows.take i).any λy=>pv y x)=true then some ((i:Int),11)else none
 |none=>none
noncomputable def Ho(t:GTable) (e:List GEnum):Int×Int:=
 if 64<t.Rows.length then(64,4)else if(ja t.Key e&&ja t.Value e)=false then(-1,8)else(ff (gH t e) t.Rows.length).getD (0,0)
theorem VJ{l:List GRow}{x:GRow}(hl:l.length<4611686018427387904):∃p,Qd l (λy=>Sc y x)=some p/\p.2=l.any λy=>pv y x:=by
 have hl1:fa (Nd l (λy=>Sc y x)) 0=some (Mb () (ff (λi=>if(l[i]?.any λy=>pv y x)=true then some ((i:Int),true)else none) l.length)):=
  Lb (λi=>(i:Int)) _ l.length () (λi hi _=>by
   unfold Nd;rw[if_pos (by omega),Aa hi,faa hi]
   grind[Sc,pD,UA,ya]) (λ_=>by grind[Nd])
 unfold Qd;rw[hl1,←ym (q:=λy=>pv y x) (g:=λi=>((i:Int),true)),daa]
 cases h:ff (λi=>if(l[i]?.any λy=>pv y x)=true then some ((i:Int),true)else none) l.length with
 |none=>exact⟨_,rfl,rfl⟩
 |some v=>
  obtain⟨k,h1,h2,-⟩:=Sa.1 h;refine⟨_,rfl,?_⟩
  grind
theorem TA(t:GTable) (e:List GEnum):dj t e=some (Ho t e):=by
 unfold dj Ho;by_cases h64:64<t.Rows.length
 .grind
 .rw[if_neg (by omega),if_neg h64];simp only[Ia,Ol,daa];have hl:fa (ai t (Xg t.Key e) (Xg t.Value e)) 0=some (Mb () (ff (gH t e) t.Rows.length)):=
   Lb (λi=>(i:Int)) _ t.Rows.length () (λi hi _=>by
    unfold ai gH;rw[if_pos (by omega),Aa hi,faa hi];simp only[daa,Nn];rw[xu (by omega),ya (by omega)];obtain⟨p,hp,hp2⟩:=VJ (l:=t.Rows.take i) (x:=t.Rows[i]) (by grind)
    grind[AE,X0,pD]) (λ_=>by grind[ai])
  rw[hl];cases ja t.Key e<;>cases ja t.Value e<;>simp only[maa,if_false,if_true,daa,rac,Oab,had,Zaa,gad,waa];cases ff (gH t e) t.Rows.length<;>rfl
theorem JA(t:GTable) (e:List GEnum):xl t e=some (Ho t e):=by
 unfold xl Ho;by_cases h64:64<t.Rows.length
 .grind
 .rw[if_neg (by omega),if_neg h64];simp only[La,daa];have hl:fa (Hh t e) 0=some (Mb () (ff (gH t e) t.Rows.length)):=
   Lb (λi=>(i:Int)) _ t.Rows.length () (λi hi _=>by
    have hl2:fa (Fh t (i:Int) t.Rows[i]) 0=some (Mb () (ff (λk=>if((t.Rows.take i)[k]?.any λy=>pv y t.Rows[i])=true then some (Ex.ret ((i:Int),11))else none) (t.Rows.take i).length)):=
     Lb (λi=>(i:Int)) _ (t.Rows.take i).length () (λk hk _=>by
      have hk':k<i:=by grind
      unfold Fh;rw[if_pos (by omega),Aa (by omega),faa hk]
      grind[pD,KA,ya]) (λ_=>by
       grind[Fh])
    unfold Hh gH;rw[if_pos (by omega),Aa hi,faa hi];simp only[daa,XE,hl2];rw[ya (by omega),←ym (q:=λy=>pv y t.Rows[i]) (g:=λk=>(Ex.ret ((i:Int),11):Ex Int Unit (Int×Int)))];cases AE t.Rows[i] t e
    .simp only[maa,if_false]
     cases h:ff (λk=>if((t.Rows.take i)[k]?.any λy=>pv y t.Rows[i])=true then some (Ex.ret ((i:Int),11):Ex Int Unit (Int×Int))else none) (t.Rows.take i).length with
     |none=>rfl
     |some v=>
      obtain⟨k,h1,h2,-⟩:=Sa.1 h;split at h2
      .injection h2 with h2;subst h2;rfl
      simp_all
    .rfl) (λ_=>by grind[Hh])
  rw[hl];cases ja t.Key e<;>cases ja t.Value e<;>simp only[maa,if_false,if_true,daa,rac,Oab,had,Zaa,gad,waa];cases ff (gH t e) t.Rows.length<;>rfl
def gb(op:Int):Int:=
 if(1<=op/\op<=9)\/(35<=op/\op<=39)then 0
 else if op=10\/op=25\/(31<=op/\op<=34)then 1
 else if op=26 then 3
 else if 11<=op/\op<=30 then 2 else -1
theorem Hz{op:Int}(h:1<=op/\op<=39):op=1\/op=2\/op=3\/op=4\/op=5\/op=6\/op=7\/op=8\/op=9\/op=10\/op=11\/op=12\/op=13\/op=14\/op=15\/op=16\/op=17\/op=18\/op=19\/op=20\/op=21\/op=22\/op=23\/op=24\/op=25\/op=26\/op=27\/op=28\/op=29\/op=30\/op=31\/op=32\/op=33\/op=34\/op=35\/op=36\/op=37\/op=38\/op=39:=by omega
theorem Ew{op:Int}(h:¬(1<=op/\op<=39)):gb op = -1:=by
 grind[gb]
theorem Jf(op:Int):mg op=some (gb op):=by
 by_cases h:1<=op/\op<=39
 .rcases Hz h with h|h|h|h|h|h|h|h|h|h|h|h|h|h|h|h|h|h|h|h|h|h|h|h|h|h|h|h|h|h|h|h|h|h|h|h|h|h|h<;>subst h<;>simp[mg,gb]
 .rw[Ew h];unfold mg;have hn:∀k:Int,1<=k->k<=39->¬op=k:=λk h1 h2 he=>h (by omega);simp[hn]
theorem Ip(op:Int):kj op=some (gb op):=by
 grind[kj,gb]
def Wb(op:Int):Bool:=decide ((1<=op/\op<=8)\/(14<=op/\op<=16)\/(33<=op/\op<=34)\/(36<=op/\op<=39))
theorem Fa{op:Int}(h:1<=op/\op<=39):Wk op=some (Wb op):=by
 rcases Hz h with h|h|h|h|h|h|h|h|h|h|h|h|h|h|h|h|h|h|h|h|h|h|h|h|h|h|h|h|h|h|h|h|h|h|h|h|h|h|h<;>subst h<;>simp[Wk,Wb]
theorem Fb{op:Int}(h:1<=op/\op<=39):lk op=some (Wb op):=by
 rcases Hz h with h|h|h|h|h|h|h|h|h|h|h|h|h|h|h|h|h|h|h|h|h|h|h|h|h|h|h|h|h|h|h|h|h|h|h|h|h|h|h<;>subst h<;>simp[lk,Wb]
def ou(k:Int):Bool:=k==2 || k==3 || k==4
theorem Zg(k:Int):Ee k=some (ou k):=by
 grind[Ee,ou]
theorem Sr(k:Int):Eh k=some (ou k):=by
 grind[Eh,ou]
theorem vv(k:Int):Qf k=some (ou k || k==5):=by
 grind[Qf,Sr]
noncomputable def Oa(n:GNode) (ops:List GType) (s:GSignature):Option (GType×Int):=
 eaa (α:=Bool) (if¬n.N=0 then(Wk n.Op).bind λx=>some (!x)else some false) λj=>if j=true then some ((GType.mk 0 0),2)else ra n ops s
def wb(n:GNode):Prop:=-9223372036854775808<=n.N/\n.N<=9223372036854775807
theorem sH{n:Int}{k:Int}(hk:1<=k) (h:-9223372036854775808<=n/\n<=9223372036854775807):da .i64 (Faa n k)=Faa n k:=by
 have h1:(Faa n k).natAbs<=n.natAbs:=by
  rw[Ead];exact Nat.div_le_self _ _
 by_cases hn:n = -9223372036854775808
 .by_cases hk1:k=1
  .subst hk1;subst hn;rfl
  .have:(Faa n k).natAbs<n.natAbs:=by
    rw[Ead];exact Nat.div_lt_self (by omega) (by omega)
   grind[wid]
 grind[wid]
end Go.Proofs.Dev
set_option maxHeartbeats 1000000
namespace Go.Proofs.Dev
open Go Go.Tm
theorem iA{t:GType}{e:List GEnum}(h:ja t e=true) (hk:t.Kind≠6):t.Enum=0:=by
 simp_all[ja]
theorem JK{k:Int}{e:List GEnum}(h1:1<=k) (h2:k<=5):ja ⟨k,0⟩ e=true:=by
 grind[ja]
theorem iC{e:List GEnum}:ja ⟨1,0⟩ e=true:=JK (by omega) (by omega)
theorem gA{e:List GEnum}:ja ⟨2,0⟩ e=true:=JK (by omega) (by omega)
theorem jJ{e:List GEnum}:ja ⟨3,0⟩ e=true:=JK (by omega) (by omega)
theorem LR{e:List GEnum}:ja ⟨4,0⟩ e=true:=JK (by omega) (by omega)
theorem caa{e:List GEnum}:ja ⟨5,0⟩ e=true:=JK (by omega) (by omega)
def jA(n:GNode) (ops:List GType) (s:GSignature):Prop:=
 Oa n ops s=Pa n ops s/\∃r,Pa n ops s=some r/\(r.2=0->ja r.1 s.Enums=true)
theorem ZP{n:GNode}{s:GSignature}{k:Int}(hk:1<=k/\k<=5) (hn:n.Op=k):jA n [] s:=by
 have hu:=Fa (op:=n.Op) (by omega);have hm:=Fb (op:=n.Op) (by omega);have hus:Wb n.Op=true:=by grind[Wb]
 have hv:ja ⟨n.Op,0⟩ s.Enums=true:=JK (by omega) (by omega);have hR:Pa n [] s=some (if(Xg ⟨n.Op,0⟩ s.Enums).1<=n.N/\n.N<=(Xg ⟨n.Op,0⟩ s.Enums).2 then(⟨n.Op,0⟩,0)else(⟨0,0⟩,3)):=by
  unfold Pa Za Rb ki kb;simp only[ql,hm,hus,daa];have h6:¬n.Op=6:=by omega
  have h7:¬n.Op=7:=by omega
  have h8:¬n.Op=8:=by omega
  have h9:¬n.Op=9:=by omega
  have h33:¬n.Op=33:=by omega
  have h34:¬n.Op=34:=by omega
  have h35:¬n.Op=35:=by omega
  have h36:¬n.Op=36:=by omega
  have h37:¬n.Op=37:=by omega
  have h38:¬n.Op=38:=by omega
  have h39:¬n.Op=39:=by omega
  have hin:(if n.Op=1 then some true else if n.Op=2 then some true else if n.Op=3 then some true else if n.Op=4 then some true else some (n.Op==5))=some true:=by
   rcases(by omega:n.Op=1\/n.Op=2\/n.Op=3\/n.Op=4\/n.Op=5)with h|h|h|h|h<;>simp[h]
  simp only[hin,h6,h7,h8,h9,h33,h34,h35,h36,h37,h38,h39,La,hv,daa,if_true,if_false,fw]
  grind
 have hI:Oa n [] s=some (if(Xg ⟨n.Op,0⟩ s.Enums).1<=n.N/\n.N<=(Xg ⟨n.Op,0⟩ s.Enums).2 then(⟨n.Op,0⟩,0)else(⟨0,0⟩,3)):=by
  grind[Ec,Xg,ra,Oa,Ol]
 refine⟨by simp_all,_,hR,?_⟩
 grind
theorem eu{N:Int}:(if¬N=0 then(some true).bind λx=>some (!x)else some false)=some false:=by simp
theorem nB{N:Int}:(if¬N=0 then(some false).bind λx=>some (!x)else some false)=some (!(N==0)):=by
 grind
theorem Js{α:Type}{x:α}{Q:α->Prop}:(∃r,some x=some r/\Q r)=Q x:=by simp
theorem Ys{α:Type}{l:List α}{N:Int}(d:α) (h0:0<=N) (h1:N<(l.length:Int)):idx l N=some ((l[N.toNat]?).getD d):=by
 grind[Ij]
theorem oZ{N:Int}{s:GSignature}(hN:wb ⟨6,N⟩):jA ⟨6,N⟩ [] s:=by
 have w:=sH (n:=N) (k:=16) (by omega) hN;have hu:=Fa (op:=6) (by omega);have hm:=Fb (op:=6) (by omega);have hus:Wb 6=true:=rfl;unfold jA Oa ra Dm Pa Za Rb ki;simp only[w,hu,hm,hus,La,eu];by_cases h0:0<=N
 .have hd:0<=Faa N 16:=Gac h0 (by omega);by_cases h1:Faa N 16<(s.Enums.length:Int)
  .rw[Ys ⟨Fac,[]⟩ hd h1];have hv:ja ⟨6,Faa N 16⟩ s.Enums=true:=by grind[ja]
   generalize (s.Enums[(Faa N 16).toNat]?).getD ⟨Fac,[]⟩=m;have e1:¬N<0:=by omega
   have e2:¬(s.Enums.length:Int)<=Faa N 16:=by omega
   by_cases h2:Qaa N 16<(m.Members.length:Int)
   .have e3:¬(m.Members.length:Int)<=Qaa N 16:=by omega
    simp[h0,h1,h2,hv,e1,e2,e3,Js,-Prod.exists]
   grind
  grind
 simp_all
theorem pZ{N:Int}{s:GSignature}:jA ⟨7,N⟩ [] s:=by
 have hu:=Fa (op:=7) (by omega);have hm:=Fb (op:=7) (by omega);have hus:Wb 7=true:=rfl;unfold jA Oa ra Db Pa Za Rb ki;simp only[hu,hm,hus,La,Ia,eu];by_cases h0:0<=N
 .have e1:¬N<0:=by omega
  by_cases h1:N<(s.Inputs.length:Int)
  .rw[Ys ⟨0,0⟩ h0 h1];generalize (s.Inputs[N.toNat]?).getD ⟨0,0⟩=t;obtain⟨tk,te⟩:=t;have e2:¬(s.Inputs.length:Int)<=N:=by omega
   cases hv:ja ⟨tk,te⟩ s.Enums<;>simp[h0,h1,hv,e1,e2,Js,-Prod.exists]
  simp_all
 grind
theorem qZ{N:Int}{s:GSignature}:jA ⟨8,N⟩ [] s:=by
 have hu:=Fa (op:=8) (by omega);have hm:=Fb (op:=8) (by omega);have hus:Wb 8=true:=rfl;unfold jA Oa ra Db Pa Za Rb ki;simp only[hu,hm,hus,La,Ia,eu];by_cases h0:0<=N
 .have e1:¬N<0:=by omega
  by_cases h1:N<(s.Defs.length:Int)
  .rw[Ys ⟨0,0⟩ h0 h1];generalize (s.Defs[N.toNat]?).getD ⟨0,0⟩=t;obtain⟨tk,te⟩:=t;have e2:¬(s.Defs.length:Int)<=N:=by omega
   cases hv:ja ⟨tk,te⟩ s.Enums<;>simp[h0,h1,hv,e1,e2,Js,-Prod.exists]
  simp_all
 grind
theorem rZ{N:Int}{s:GSignature}:jA ⟨9,N⟩ [] s:=by
 have hu:=Fa (op:=9) (by omega);have hm:=Fb (op:=9) (by omega);have hus:Wb 9=false:=rfl;unfold jA Oa ra Pa Za Rb ki kb;simp only[hu,hm,hus,La,nB];cases N==0<;>simp[caa,Js,-Prod.exists]
theorem cU{N:Int}{s:GSignature}:jA ⟨35,N⟩ [] s:=by
 have hu:=Fa (op:=35) (by omega);have hm:=Fb (op:=35) (by omega);have hus:Wb 35=false:=rfl;unfold jA Oa ra sf Pa Za Rb ki kb;simp only[hu,hm,hus,La,nB];cases hm:s.HasMembers<;>cases N==0<;>simp[hm,gA,Js,-Prod.exists]
theorem aQ{op N:Int}{s:GSignature}(h:36<=op/\op<=39):jA ⟨op,N⟩ [] s:=by
 have hu:=Fa (op:=op) (by omega);have hm:=Fb (op:=op) (by omega);have hus:Wb op=true:=by grind[Wb]
 unfold jA Oa ra sf Db Pa Za Rb ki;simp only[hu,hm,hus,La,Ia,Zg,vv,eu];cases hM:s.HasMembers
 .rcases(by omega:op=36\/op=37\/op=38\/op=39)with h|h|h|h<;>subst h<;>simp[hM,Js,-Prod.exists]
 .by_cases h0:0<=N
  .have e1:¬N<0:=by omega
   by_cases h1:N<(s.MemberDefs.length:Int)
   .rw[Ys ⟨0,0⟩ h0 h1];generalize (s.MemberDefs[N.toNat]?).getD ⟨0,0⟩=t;obtain⟨tk,te⟩:=t;have e2:¬(s.MemberDefs.length:Int)<=N:=by omega
    cases hv:ja ⟨tk,te⟩ s.Enums
    .rcases(by omega:op=36\/op=37\/op=38\/op=39)with h|h|h|h<;>subst h<;>simp[hM,h0,h1,hv,e1,e2,Js,-Prod.exists]
    .rcases(by omega:op=36\/op=37\/op=38\/op=39)with h|h|h|h<;>subst h<;>simp only[hM,h0,h1,hv,e1,e2,daa,if_true,if_false,not_true_eq_false,not_false_eq_true,decide_false,decide_true,maa,waa,naa,beq_self_eq_true,oaa]
     .by_cases k2:tk=2<;>by_cases k3:tk=3<;>simp[k2,k3,hv,Js,-Prod.exists]<;>simp_all
     all_goals grind
   .have e2:(s.MemberDefs.length:Int)<=N:=by omega
    rcases(by omega:op=36\/op=37\/op=38\/op=39)with h|h|h|h<;>subst h<;>simp[hM,h0,h1,e1,e2,Js,-Prod.exists]
  .have e1:N<0:=by omega
   rcases(by omega:op=36\/op=37\/op=38\/op=39)with h|h|h|h<;>subst h<;>simp[hM,h0,e1,Js,-Prod.exists]
theorem qg{α:Type}{x:α}{l:List α}:idx (x::l) 0=some x:=rfl
theorem RE{α:Type}{x y:α}{l:List α}:idx (x::y::l) 1=some y:=rfl
theorem LY{α:Type}{x y z:α}{l:List α}:idx (x::y::z::l) 2=some z:=rfl
theorem cQ{op N:Int}{s:GSignature}{a:GType}(hop:op=10\/op=25\/op=31\/op=32) (ha:ja a s.Enums=true):jA ⟨op,N⟩ [a] s:=by
 have hu:=Fa (op:=op) (by omega);have hm:=Fb (op:=op) (by omega);have hus:Wb op=false:=by grind[Wb]
 unfold jA Oa ra Da Pa Za Rb uj kb;simp only[hu,hm,hus,nB,Zg,Sr];obtain⟨ak,ae⟩:=a;rcases hop with h|h|h|h<;>subst h<;>cases N==0
 .simp
 .cases hn:ou ak<;>simp[qg,hn,ha,Js,-Prod.exists]
 .simp
 .by_cases k1:ak=1
  .subst k1;have:=iA ha (by simp)
   simp_all[qg]
  simp_all[qg]
 .simp
 .by_cases k1:ak=5<;>simp[qg,k1,gA,Js,-Prod.exists]
 .simp
 .by_cases k1:ak=5<;>simp[qg,k1,gA,Js,-Prod.exists]
theorem aU{N:Int}{s:GSignature}{a:GType}(ha:ja a s.Enums=true):jA ⟨33,N⟩ [a] s:=by
 have hu:=Fa (op:=33) (by omega);have hm:=Fb (op:=33) (by omega);have hus:Wb 33=true:=rfl;unfold jA Oa ra og Pa Za Rb uj;simp only[hu,hm,hus,La,Ia,eu];by_cases h0:0<=N
 .have e1:¬N<0:=by omega
  by_cases h1:N<(s.Tables.length:Int)
  .obtain⟨t,ht⟩:∃t,idx s.Tables N=some t:=⟨_,Ij h0 h1⟩;have e2:¬(s.Tables.length:Int)<=N:=by omega
   cases hk:ja t.Key s.Enums
   .simp[qg,ht,h0,h1,e1,e2,hk,Js,-Prod.exists]
   .cases hv:ja t.Value s.Enums
    .simp[qg,ht,h0,h1,e1,e2,hk,hv,Js,-Prod.exists]
    .by_cases k1:a.Kind=t.Key.Kind<;>by_cases k2:a.Enum=t.Key.Enum<;>simp[qg,ht,h0,h1,e1,e2,hk,hv,k1,k2,Js,-Prod.exists]
  simp_all[qg]
 .have e1:N<0:=by omega
  have e3:¬N<(s.Tables.length:Int)\/N<(s.Tables.length:Int):=by omega
  simp[qg,h0,e1,Js,-Prod.exists]
theorem bU{N:Int}{s:GSignature}{a:GType}(hN:wb ⟨34,N⟩) (ha:ja a s.Enums=true):jA ⟨34,N⟩ [a] s:=by
 have hu:=Fa (op:=34) (by omega);have hm:=Fb (op:=34) (by omega);have hus:Wb 34=true:=rfl;have w:=sH (n:=N) (k:=8) (by omega) hN;unfold jA Oa ra og Me Pa Za Rb uj kb;simp only[hu,hm,hus,La,Ia,eu,w];by_cases h0:0<=N
 .have e1:¬N<0:=by omega
  have hd:0<=Faa N 8:=Gac h0 (by omega);have hmod:0<=Qaa N 8:=Fad _ h0;have e3:¬Faa N 8<0:=by omega
  by_cases h5:Qaa N 8<=5
  .by_cases h1:Faa N 8<(s.Tables.length:Int)
   .obtain⟨t,ht⟩:∃t,idx s.Tables (Faa N 8)=some t:=⟨_,Ij hd h1⟩;have e2:¬(s.Tables.length:Int)<=Faa N 8:=by omega
    obtain⟨_,⟨kk,ke⟩,⟨vk,ve⟩,_⟩:=t;obtain⟨ak,ae⟩:=a;simp only[qg,ht,h0,h1,e1,e2,e3,hmod,h5,daa,if_true,if_false,not_true_eq_false,not_false_eq_true,decide_false,decide_true,maa,waa,naa,beq_self_eq_true,oaa,Oab,rac];by_cases hk3:kk=3
    .subst hk3;by_cases hke:ke=0
     .subst hke;rw[show ja ⟨3,0⟩ s.Enums=true from jJ];by_cases hv4:vk=4
      .subst hv4
       grind[ja]
      grind[ja]
     simp_all[ja]
    .cases ja ⟨kk,ke⟩ s.Enums<;>cases ja ⟨vk,ve⟩ s.Enums<;>by_cases ha3:ak=3<;>by_cases hak:ak=kk<;>by_cases hae:ae=ke<;>simp_all[Js,-Prod.exists]
   simp_all[qg]
  simp_all[qg]
 .have e1:N<0:=by omega
  simp[qg,h0,e1,Js,-Prod.exists]
theorem ZT{N:Int}{s:GSignature}{a b c:GType}(hb:ja b s.Enums=true):jA ⟨26,N⟩ [a,b,c] s:=by
 have hu:=Fa (op:=26) (by omega);have hm:=Fb (op:=26) (by omega);have hus:Wb 26=false:=rfl;unfold jA Oa ra Da Pa Za Rb;simp only[hu,hm,hus,nB];obtain⟨bk,be⟩:=b;cases N==0
 .simp
 .by_cases k1:a.Kind=1<;>by_cases k2:bk=c.Kind<;>by_cases k3:be=c.Enum<;>simp[qg,RE,LY,k1,k2,k3,Js,-Prod.exists]
  simp_all
theorem res2{op N:Int}{s:GSignature}{a b:GType}{u:Bool}(hm:lk op=some u) (hr:Za ⟨op,N⟩ s=some true) (hf:Rb ⟨op,N⟩ s=some true) {t:GType}{ok:Bool}
 (hd:Dh op a b=some (t,ok)) (hu:u=true\/N=0):Pa ⟨op,N⟩ [a,b] s=some (if ok=true then(t,0)else(⟨0,0⟩,8)):=by
 unfold Pa;simp only[hm,hr,hf,qg,RE];rcases hu with rfl|rfl<;>cases ok<;>simp[hd]
theorem S3{op N:Int}{s:GSignature}{a b:GType}{u:Bool}(hm:Wk op=some u) (h1:ra ⟨op,N⟩ [a,b] s=(Da op [a,b]).bind λx=>if x.2=false then some (⟨0,0⟩,8)else some (x.1,0)) {t:GType}{ok:Bool}
 (hd:Da op [a,b]=some (t,ok)) (hu:u=true\/N=0):Oa ⟨op,N⟩ [a,b] s=some (if ok=true then(t,0)else(⟨0,0⟩,8)):=by
 unfold Oa
 grind
theorem Q0{op N:Int}{s:GSignature}{a b:GType}(hop:(11<=op/\op<=24)\/(27<=op/\op<=30)) {t:GType}{ok:Bool}{t':GType}(hI:Da op [a,b]=some (t',ok)) (hR:Dh op a b=some (t,ok)) (ht:ok=true->t'=t/\ja t s.Enums=true) :
 jA ⟨op,N⟩ [a,b] s:=by
 have hu:=Fa (op:=op) (by omega);have hm:=Fb (op:=op) (by omega);have hr:(14<=op/\op<=16)/\Za ⟨op,N⟩ s=some (decide (0<=N)&&decide (N<=5))/\ra ⟨op,N⟩ [a,b] s=(if(decide (0<=N)&&decide (N<=5))=true then(Da op [a,b]).bind λx=>if x.2=false then some (⟨0,0⟩,8)else some (x.1,0)else some (⟨0,0⟩,3))\/
  ¬(14<=op/\op<=16)/\Za ⟨op,N⟩ s=some true/\ra ⟨op,N⟩ [a,b] s=((Da op [a,b]).bind λx=>if x.2=false then some (⟨0,0⟩,8)else some (x.1,0)):=by
  clear hI hR ht hu hm;by_cases h:14<=op/\op<=16
  .refine .inl ⟨h,?_,?_⟩
   .grind[Za]
   .unfold ra Me;simp only[fw];rcases(by omega:op=14\/op=15\/op=16)with h|h|h<;>subst h<;>by_cases g1:0<=N<;>by_cases g2:N<=5<;>simp[g1,g2]
  .refine .inr ⟨h,?_,?_⟩
   .unfold Za;rcases(by omega:op=11\/op=12\/op=13\/op=17\/op=18\/op=19\/op=20\/op=21\/op=22\/op=23\/op=24\/op=27\/op=28\/op=29\/op=30)with h|h|h|h|h|h|h|h|h|h|h|h|h|h|h<;>subst h<;>simp
   .unfold ra;rcases(by omega:op=11\/op=12\/op=13\/op=17\/op=18\/op=19\/op=20\/op=21\/op=22\/op=23\/op=24\/op=27\/op=28\/op=29\/op=30)with h|h|h|h|h|h|h|h|h|h|h|h|h|h|h<;>subst h<;>simp
 have hf:Rb ⟨op,N⟩ s=some true:=by
  unfold Rb;rcases(by omega:op=11\/op=12\/op=13\/op=14\/op=15\/op=16\/op=17\/op=18\/op=19\/op=20\/op=21\/op=22\/op=23\/op=24\/op=27\/op=28\/op=29\/op=30)with h|h|h|h|h|h|h|h|h|h|h|h|h|h|h|h|h|h<;>subst h<;>simp
 have fin:∀(hz:Wb op=true\/N=0),Za ⟨op,N⟩ s=some true->ra ⟨op,N⟩ [a,b] s=((Da op [a,b]).bind λx=>if x.2=false then some (⟨0,0⟩,8)else some (x.1,0))->jA ⟨op,N⟩ [a,b] s:=by
  intro hz h1 h2;unfold jA;rw[res2 hm h1 hf hR hz,S3 hu h2 hI hz]
  grind
 rcases hr with⟨h,h1,h2⟩|⟨h,h1,h2⟩
 .have hus:Wb op=true:=by grind[Wb]
  by_cases hN:(decide (0<=N)&&decide (N<=5))=true
  .simp_all
  .rw[Aad]at hN;rw[hN]at h1;rw[hN,if_neg (by simp)]at h2;unfold jA Oa Pa
   simp_all
 .have hus:Wb op=false:=by grind[Wb]
  by_cases hN:N=0
  .simp_all
  .unfold jA Oa Pa
   simp_all
theorem dQ{op N:Int}{s:GSignature}{a b:GType}(hop:(11<=op/\op<=24)\/(27<=op/\op<=30)) (ha:ja a s.Enums=true):jA ⟨op,N⟩ [a,b] s:=by
 have hz:∀k,1<=k->k<=5->a.Kind=k->a.Enum=0:=λk h1 h2 h=>iA ha (by omega);obtain⟨ak,ae⟩:=a;obtain⟨bk,be⟩:=b;simp only at hz;have hr:∃t t' ok,Da op [⟨ak,ae⟩,⟨bk,be⟩]=some (t',ok)/\Dh op ⟨ak,ae⟩ ⟨bk,be⟩=some (t,ok)/\(ok=true->t'=t/\ja t s.Enums=true):=by
  unfold Da Dh Vf oo kb;simp only[qg,RE,Zg,Sr,vv];rcases(by omega:op=11\/op=12\/op=13\/op=14\/op=15\/op=16\/op=17\/op=18\/op=19\/op=20\/op=21\/op=22\/op=23\/op=24\/op=27\/op=28\/op=29\/op=30)with h|h|h|h|h|h|h|h|h|h|h|h|h|h|h|h|h|h<;>subst h
  .by_cases k1:ak=bk/\ae=be
   .cases hn:ou ak<;>simp[k1,hn,ha]
    all_goals grind
   .simp[k1]
  .by_cases k1:ak=bk/\ae=be
   .cases hn:ou ak<;>simp[k1,hn,ha]
    all_goals grind
   .simp[k1]
  .by_cases k1:bk=2<;>by_cases k2:ak=2<;>by_cases k3:ak=3<;>simp[k1,k2,k3,gA,jJ]
  .by_cases k1:bk=4<;>by_cases k2:ak=3<;>by_cases k3:ak=4<;>simp[k1,k2,k3,LR,jJ]
  .by_cases k1:bk=2<;>by_cases k2:ak=2<;>by_cases k3:ak=3<;>by_cases k4:bk=3<;>simp[k1,k2,k3,k4,gA,jJ,LR]
   all_goals simp_all
  .by_cases k1:ak=3<;>by_cases k2:bk=3<;>simp[k1,k2]
   simp_all
  .by_cases k1:ak=bk/\ae=be
   .cases hn:ou ak<;>by_cases k5:ak=5<;>simp[k1,hn,k5,ha]
    all_goals grind
   .simp[k1]
  .by_cases k1:ak=bk/\ae=be
   .cases hn:ou ak<;>by_cases k5:ak=5<;>simp[k1,hn,k5,ha]
    all_goals grind
   .simp[k1]
  .by_cases k1:ak=bk<;>by_cases k2:ae=be<;>simp[k1,k2,iC]
  .by_cases k1:ak=bk<;>by_cases k2:ae=be<;>simp[k1,k2,iC]
  .by_cases k1:ak=bk/\ae=be
   .cases hn:ou ak<;>by_cases k5:ak=5<;>simp[k1,hn,k5,iC]
    all_goals grind[iC]
   .simp[k1]
  .by_cases k1:ak=bk/\ae=be
   .cases hn:ou ak<;>by_cases k5:ak=5<;>simp[k1,hn,k5,iC]
    all_goals grind[iC]
   .simp[k1]
  .by_cases k1:ak=1<;>by_cases k2:bk=1<;>simp[k1,k2]
   grind
  .by_cases k1:ak=1<;>by_cases k2:bk=1<;>simp[k1,k2]
   grind
  .by_cases k1:ak=5<;>by_cases k2:bk=2<;>simp[k1,k2]
   simp_all
  .by_cases k1:ak=5<;>by_cases k2:bk=2<;>simp[k1,k2]
   simp_all
  .by_cases k1:ak=5<;>by_cases k2:bk=5<;>simp[k1,k2,gA]
  .by_cases k1:ak=5<;>by_cases k2:bk=5<;>simp[k1,k2,gA]
 obtain⟨t,t',ok,h1,h2,h3⟩:=hr
 grind[Q0]
theorem eU{n:GNode}{ops:List GType}{s:GSignature}(hop:1<=n.Op/\n.Op<=39) (hN:wb n) (hlen:(ops.length:Int)=gb n.Op) (hv:∀t∈ops,ja t s.Enums=true):jA n ops s:=by
 obtain⟨op,N⟩:=n;simp only at hop hlen;unfold gb at hlen;by_cases h0:(1<=op/\op<=9)\/(35<=op/\op<=39)
 .rw[if_pos h0]at hlen;obtain rfl:ops=[]:=Caa (by omega);rcases(by omega:(1<=op/\op<=5)\/op=6\/op=7\/op=8\/op=9\/op=35\/(36<=op/\op<=39))with h|h|h|h|h|h|h
  .exact ZP h rfl
  all_goals grind[oZ,pZ,qZ,rZ,cU,aQ]
 rw[if_neg h0]at hlen;by_cases h1:op=10\/op=25\/(31<=op/\op<=34)
 .rw[if_pos h1]at hlen;obtain⟨a,rfl⟩:∃a,ops=[a]:=by
   match ops,hlen with
   |[a],_=>simp
  have ha:=hv a (by simp);rcases(by omega:(op=10\/op=25\/op=31\/op=32)\/op=33\/op=34)with h|h|h
  all_goals grind[cQ,aU,bU]
 rw[if_neg h1]at hlen;by_cases h2:op=26
 .rw[if_pos h2]at hlen;obtain⟨a,b,c,rfl⟩:∃a b c,ops=[a,b,c]:=by
   match ops,hlen with
   |[a,b,c],_=>simp
  grind[ZT]
 rw[if_neg h2,if_pos (by omega)]at hlen;obtain⟨a,b,rfl⟩:∃a b,ops=[a,b]:=by
  match ops,hlen with
  |[a,b],_=>simp
 grind[dQ]
def ua(e:List GNode) (i:Nat):GNode:=(e[i]?).getD ⟨0,0⟩
theorem Ld{e:List GNode}{i:Nat}(h:i<e.length):e[i]=ua e i:=by
 grind[ua]
def Be(e:List GNode):Nat->List Int×List Int
 |0=>([],[])
 |i+1=>
  let p:=Be e i
  let a:=(gb (ua e i).Op).toNat
  let f:=if 0<a then(p.2[p.2.length-a]?).getD 0 else(i:Int)
  (p.1++[f],p.2.take (p.2.length-a)++[f])
theorem Zz(e:List GNode):∀i,(Be e i).1.length=i
 |0=>rfl
 |i+1=>by simp[Be,Zz e i]
def rv(e:List GNode) (i:Nat):Option (List Int×Int×Int):=
 if gb (ua e i).Op<0 then some ([],(i:Int),2)
 else if((Be e i).2.length:Int)<gb (ua e i).Op then some ([],(i:Int),5)
 else if 12<(Be e (i+1)).2.length then some ([],(i:Int),16)else none
def tm(e:List GNode):List Int×Int×Int:=
 if 48<e.length then([],0,4)else if e.length=0 then([],0,5)
 else match ff (rv e) e.length with
  |some v=>v
  |none=>if 1<(Be e e.length).2.length then([],(e.length:Int),4)else((Be e e.length).1,0,0)
theorem En{e:List GNode}{i:Nat}(h:∀j,j<i->rv e j=none):(Be e i).2.length<=12:=by
 cases i with
 |zero=>simp[Be]
 |succ i=>
  have:=h i (by omega)
  grind[rv]
theorem iV{p:List Int}{i n:Nat}{f:Int}(hp:p.length=i) (h:i<n):(p++jaa (n-i) 0).set i f=p++[f]++jaa (n-(i+1)) 0:=by
 obtain⟨k,hk⟩:∃k,n-i=k+1:=⟨n-i-1,by omega⟩;have hk':n-(i+1)=k:=by omega
 simp_all[List.replicate_succ]
theorem YK{p r:List Int}{i:Nat}{f:Int}(hp:p.length=i):(p++[f]++r)[i]?=some f:=by
 simp_all
theorem Fi(e:List GNode):Ei e=some (tm e):=by
 unfold Ei tm;by_cases h48:48<e.length
 .grind
 rw[if_neg (by omega),if_neg h48];by_cases h0:e.length=0
 .simp_all
 rw[if_neg (by omega),if_neg h0,GA (by omega) (by omega),daa];have hl:fa (th e) (jaa e.length 0,([]:List Int),0)=some (Mb ((Be e e.length).1,(Be e e.length).2) (ff (rv e) e.length)):=by
  refine Lb (λi=>((Be e i).1++jaa (e.length-i) 0,(Be e i).2,(i:Int))) (rv e) e.length _ (λi hi hf=>?_) (λ_=>?_) ?_
  .have hs:=En hf;have hl:=Zz e i;unfold th rv;simp only;rw[if_pos (by omega),Aa hi,daa,Ld hi,Jf,daa];by_cases ha:gb (ua e i).Op<0
   .rw[if_pos ha,if_pos ha];rfl
   rw[if_neg ha,if_neg ha];by_cases hb:((Be e i).2.length:Int)<gb (ua e i).Op
   .rw[if_pos hb,if_pos hb];rfl
   rw[if_neg hb,if_neg hb];obtain⟨a,ha'⟩:∃a:Nat,gb (ua e i).Op=a:=⟨(gb (ua e i).Op).toNat,by omega⟩;have hst:Be e (i+1)=((Be e i).1++[if 0<a then((Be e i).2[(Be e i).2.length-a]?).getD 0 else(i:Int)],(Be e i).2.take ((Be e i).2.length-a)++[if 0<a then((Be e i).2[(Be e i).2.length-a]?).getD 0 else(i:Int)]):=by
    grind[Be]
   have hsub:da .i64 (((Be e i).2.length:Int)-(a:Int))=(((Be e i).2.length-a:Nat):Int):=by
    grind[wid]
   rw[ha',hst,hsub];generalize hS:(Be e i).2=sk at *;generalize (Be e i).1=st at *;rw[ha']at hb;rw[Aa (i:=i) (by grind),daa,ry (by grind),daa,iV hl hi,xu (by omega)];by_cases h0a:0<a
   .have hk:sk.length-a<sk.length:=by omega
    rw[if_pos (by omega),if_pos h0a,Aa hk,daa,Aa (i:=i) (by simp_all),daa,ry (by simp_all),daa];have hset:(st++[(i:Int)]++jaa (e.length-(i+1)) 0).set i sk[sk.length-a]=st++[sk[sk.length-a]]++jaa (e.length-(i+1)) 0:=by
     simp_all
    rw[hset,daa,daa,faa hk,cac,tI,YK hl,daa];rw[Hf (by grind),daa];by_cases hd:12<(sk.take (sk.length-a)++[sk[sk.length-a]]).length
    .grind
    .rw[if_neg (by omega),if_neg hd,ya (by omega)];rfl
   .rw[if_neg (by omega),if_neg h0a,daa,daa,tI,YK hl,daa];rw[Hf (by grind),daa];by_cases hd:12<(sk.take (sk.length-a)++[(i:Int)]).length
    .rw[if_pos (by omega),if_pos hd];rfl
    .rw[if_neg (by omega),if_neg hd,ya (by omega)];rfl
  all_goals grind[th,Be]
 grind[Mb]
theorem qo(e:List GNode):tf e=some (tm e):=by
 unfold tf tm;by_cases h48:48<e.length
 .grind
 rw[if_neg (by omega),if_neg h48];by_cases h0:e.length=0
 .simp_all
 rw[if_neg (by omega),if_neg h0];have hl:fa (yg e) (([]:List Int),([]:List Int),0)=some (Mb ((Be e e.length).1,(Be e e.length).2) (ff (rv e) e.length)):=by
  refine Lb (λi=>((Be e i).1,(Be e i).2,(i:Int))) (rv e) e.length _ (λi hi hf=>?_) (λ_=>?_)
  .have hs:=En hf;have hl:=Zz e i;unfold yg rv;simp only;rw[if_pos (by omega),Aa hi,daa,Ld hi,Ip,daa];by_cases ha:gb (ua e i).Op<0
   .rw[if_pos ha,if_pos ha];rfl
   rw[if_neg ha,if_neg ha];by_cases hb:((Be e i).2.length:Int)<gb (ua e i).Op
   .rw[if_pos hb,if_pos hb];rfl
   rw[if_neg hb,if_neg hb];obtain⟨a,ha'⟩:∃a:Nat,gb (ua e i).Op=a:=⟨(gb (ua e i).Op).toNat,by omega⟩;have hst:Be e (i+1)=((Be e i).1++[if 0<a then((Be e i).2[(Be e i).2.length-a]?).getD 0 else(i:Int)],(Be e i).2.take ((Be e i).2.length-a)++[if 0<a then((Be e i).2[(Be e i).2.length-a]?).getD 0 else(i:Int)]):=by
    grind[Be]
   have hsub:da .i64 (((Be e i).2.length:Int)-(a:Int))=(((Be e i).2.length-a:Nat):Int):=by
    grind[wid]
   rw[ha',hst,hsub];generalize hS:(Be e i).2=sk at *;generalize (Be e i).1=st at *;rw[ha']at hb;by_cases h0a:0<a
   .have hk:sk.length-a<sk.length:=by omega
    rw[if_pos (by omega),if_pos h0a,Aa hk,daa,xu (by omega),daa,daa,faa hk,cac];simp only;rw[Hf (by grind),daa,Hf (by grind),daa];by_cases hd:12<(sk.take (sk.length-a)++[sk[sk.length-a]]).length
    .grind
    .rw[if_neg (by omega),if_neg hd,ya (by omega)];rfl
   .have ha0:a=0:=by omega
    subst ha0;rw[if_neg (by omega),if_neg h0a,daa];simp only[Nat.sub_zero,Nab];rw[Hf (by grind),daa,Hf (by grind),daa];by_cases hd:12<(sk++[(i:Int)]).length
    .rw[if_pos (by omega),if_pos hd];rfl
    .rw[if_neg (by omega),if_neg hd,ya (by omega)];rfl
  grind[yg]
 grind[Mb]
def kA(n:GNode) (ops:List GType) (s:GSignature):Prop:=∃r,Oa n ops s=some r/\(r.2=0->ja r.1 s.Enums=true)
theorem UP{n:GNode}{s:GSignature}{k:Int}(hk:1<=k/\k<=5) (hn:n.Op=k):kA n [] s:=by
 have hu:=Fa (op:=n.Op) (by omega);have hus:Wb n.Op=true:=by grind[Wb]
 have hv:ja ⟨n.Op,0⟩ s.Enums=true:=JK (by omega) (by omega);have hI:Oa n [] s=some (if(Xg ⟨n.Op,0⟩ s.Enums).1<=n.N/\n.N<=(Xg ⟨n.Op,0⟩ s.Enums).2 then(⟨n.Op,0⟩,0)else(⟨0,0⟩,3)):=by
  grind[Ec,Xg,ra,Oa,Ol]
 refine⟨_,hI,?_⟩
 grind
theorem kZ{N:Int}{s:GSignature}(hN:wb ⟨6,N⟩):kA ⟨6,N⟩ [] s:=by
 have w:=sH (n:=N) (k:=16) (by omega) hN;have hu:=Fa (op:=6) (by omega);have hus:Wb 6=true:=rfl;unfold kA Oa ra Dm;simp only[w,hu,hus,eu];by_cases h0:0<=N
 .have hd:0<=Faa N 16:=Gac h0 (by omega);by_cases h1:Faa N 16<(s.Enums.length:Int)
  .rw[Ys ⟨Fac,[]⟩ hd h1];have hv:ja ⟨6,Faa N 16⟩ s.Enums=true:=by grind[ja]
   generalize (s.Enums[(Faa N 16).toNat]?).getD ⟨Fac,[]⟩=m;have e1:¬N<0:=by omega
   have e2:¬(s.Enums.length:Int)<=Faa N 16:=by omega
   by_cases h2:Qaa N 16<(m.Members.length:Int)
   .have e3:¬(m.Members.length:Int)<=Qaa N 16:=by omega
    simp[h0,h1,h2,hv,e1,e2,e3,Js,-Prod.exists]
   .have e3:(m.Members.length:Int)<=Qaa N 16:=by omega
    simp[h0,h1,h2,hv,e1,e2,e3,Js,-Prod.exists]
  .have e1:¬N<0:=by omega
   have e2:(s.Enums.length:Int)<=Faa N 16:=by omega
   simp[h0,h1,e1,e2,Js,-Prod.exists]
 simp_all
theorem lZ{N:Int}{s:GSignature}:kA ⟨7,N⟩ [] s:=by
 have hu:=Fa (op:=7) (by omega);have hus:Wb 7=true:=rfl;unfold kA Oa ra Db;simp only[hu,hus,Ia,eu];by_cases h0:0<=N
 .have e1:¬N<0:=by omega
  by_cases h1:N<(s.Inputs.length:Int)
  .rw[Ys ⟨0,0⟩ h0 h1];generalize (s.Inputs[N.toNat]?).getD ⟨0,0⟩=t;obtain⟨tk,te⟩:=t;have e2:¬(s.Inputs.length:Int)<=N:=by omega
   cases hv:ja ⟨tk,te⟩ s.Enums<;>simp[h0,h1,hv,e1,e2,Js,-Prod.exists]
  simp_all
 simp_all
theorem mZ{N:Int}{s:GSignature}:kA ⟨8,N⟩ [] s:=by
 have hu:=Fa (op:=8) (by omega);have hus:Wb 8=true:=rfl;unfold kA Oa ra Db;simp only[hu,hus,Ia,eu];by_cases h0:0<=N
 .have e1:¬N<0:=by omega
  by_cases h1:N<(s.Defs.length:Int)
  .rw[Ys ⟨0,0⟩ h0 h1];generalize (s.Defs[N.toNat]?).getD ⟨0,0⟩=t;obtain⟨tk,te⟩:=t;have e2:¬(s.Defs.length:Int)<=N:=by omega
   cases hv:ja ⟨tk,te⟩ s.Enums<;>simp[h0,h1,hv,e1,e2,Js,-Prod.exists]
  simp_all
 simp_all
theorem nZ{N:Int}{s:GSignature}:kA ⟨9,N⟩ [] s:=by
 have hu:=Fa (op:=9) (by omega);have hus:Wb 9=false:=rfl;unfold kA Oa ra;simp only[hu,hus,nB];cases N==0<;>simp[caa,Js,-Prod.exists]
theorem YT{N:Int}{s:GSignature}:kA ⟨35,N⟩ [] s:=by
 have hu:=Fa (op:=35) (by omega);have hus:Wb 35=false:=rfl;unfold kA Oa ra sf;simp only[hu,hus,nB];cases hm:s.HasMembers<;>cases N==0<;>simp[gA,Js,-Prod.exists]
theorem VP{op N:Int}{s:GSignature}(h:36<=op/\op<=39):kA ⟨op,N⟩ [] s:=by
 have hu:=Fa (op:=op) (by omega);have hus:Wb op=true:=by grind[Wb]
 unfold kA Oa ra sf Db;simp only[hu,hus,Ia,Zg,eu];cases hM:s.HasMembers
 .rcases(by omega:op=36\/op=37\/op=38\/op=39)with h|h|h|h<;>subst h<;>simp[hM,Js,-Prod.exists]
 .by_cases h0:0<=N
  .have e1:¬N<0:=by omega
   by_cases h1:N<(s.MemberDefs.length:Int)
   .rw[Ys ⟨0,0⟩ h0 h1];generalize (s.MemberDefs[N.toNat]?).getD ⟨0,0⟩=t;obtain⟨tk,te⟩:=t;have e2:¬(s.MemberDefs.length:Int)<=N:=by omega
    cases hv:ja ⟨tk,te⟩ s.Enums
    .rcases(by omega:op=36\/op=37\/op=38\/op=39)with h|h|h|h<;>subst h<;>simp[hM,h0,h1,hv,e1,e2,Js,-Prod.exists]
    .rcases(by omega:op=36\/op=37\/op=38\/op=39)with h|h|h|h<;>subst h<;>simp only[hM,h0,h1,hv,e1,e2,daa,if_true,if_false,not_true_eq_false,not_false_eq_true,decide_false,decide_true,maa,waa,naa,beq_self_eq_true,oaa]
     .by_cases k2:tk=2<;>by_cases k3:tk=3<;>simp[k2,k3,hv,Js,-Prod.exists]<;>simp_all
     .by_cases k1:tk=1<;>simp[k1,hv,Js,-Prod.exists]<;>simp_all
     .by_cases k1:tk=1<;>simp[k1,hv,Js,-Prod.exists]<;>simp_all
     .cases ou tk<;>by_cases k5:tk=5<;>simp[k5,hv,Js,-Prod.exists]<;>simp_all
   .have e2:(s.MemberDefs.length:Int)<=N:=by omega
    rcases(by omega:op=36\/op=37\/op=38\/op=39)with h|h|h|h<;>subst h<;>simp[hM,h0,h1,e1,e2,Js,-Prod.exists]
  .have e1:N<0:=by omega
   rcases(by omega:op=36\/op=37\/op=38\/op=39)with h|h|h|h<;>subst h<;>simp[hM,h0,e1,Js,-Prod.exists]
theorem XP{op N:Int}{s:GSignature}{a:GType}(hop:op=10\/op=25\/op=31\/op=32) (ha:ja a s.Enums=true):kA ⟨op,N⟩ [a] s:=by
 have hu:=Fa (op:=op) (by omega);have hus:Wb op=false:=by grind[Wb]
 unfold kA Oa ra Da;simp only[hu,hus,nB,Zg];obtain⟨ak,ae⟩:=a;rcases hop with h|h|h|h<;>subst h<;>cases N==0
 .simp
 .cases hn:ou ak<;>simp[qg,hn,ha,Js,-Prod.exists]
 .simp
 .by_cases k1:ak=1
  .subst k1;have:=iA ha (by simp)
   simp_all[qg]
  simp_all[qg]
 .simp
 .by_cases k1:ak=5<;>simp[qg,k1,gA,Js,-Prod.exists]
 .simp
 .by_cases k1:ak=5<;>simp[qg,k1,gA,Js,-Prod.exists]
theorem WT{N:Int}{s:GSignature}{a:GType}(ha:ja a s.Enums=true):kA ⟨33,N⟩ [a] s:=by
 have hu:=Fa (op:=33) (by omega);have hus:Wb 33=true:=rfl;unfold kA Oa ra og;simp only[hu,hus,Ia,eu];by_cases h0:0<=N
 .have e1:¬N<0:=by omega
  by_cases h1:N<(s.Tables.length:Int)
  .obtain⟨t,ht⟩:∃t,idx s.Tables N=some t:=⟨_,Ij h0 h1⟩;have e2:¬(s.Tables.length:Int)<=N:=by omega
   cases hk:ja t.Key s.Enums
   .simp[qg,ht,h0,h1,e1,e2,hk,Js,-Prod.exists]
   .cases hv:ja t.Value s.Enums
    .simp[qg,ht,h0,h1,e1,e2,hk,hv,Js,-Prod.exists]
    .by_cases k1:a.Kind=t.Key.Kind<;>by_cases k2:a.Enum=t.Key.Enum<;>simp[qg,ht,h0,h1,e1,e2,hk,hv,k1,k2,Js,-Prod.exists]
  simp_all[qg]
 .have e1:N<0:=by omega
  have e3:¬N<(s.Tables.length:Int)\/N<(s.Tables.length:Int):=by omega
  simp[qg,h0,e1,Js,-Prod.exists]
theorem XT{N:Int}{s:GSignature}{a:GType}(hN:wb ⟨34,N⟩) (ha:ja a s.Enums=true):kA ⟨34,N⟩ [a] s:=by
 have hu:=Fa (op:=34) (by omega);have hus:Wb 34=true:=rfl;have w:=sH (n:=N) (k:=8) (by omega) hN;unfold kA Oa ra og Me;simp only[hu,hus,Ia,eu,w];by_cases h0:0<=N
 .have e1:¬N<0:=by omega
  have hd:0<=Faa N 8:=Gac h0 (by omega);have hmod:0<=Qaa N 8:=Fad _ h0;have e3:¬Faa N 8<0:=by omega
  by_cases h5:Qaa N 8<=5
  .by_cases h1:Faa N 8<(s.Tables.length:Int)
   .obtain⟨t,ht⟩:∃t,idx s.Tables (Faa N 8)=some t:=⟨_,Ij hd h1⟩;have e2:¬(s.Tables.length:Int)<=Faa N 8:=by omega
    obtain⟨_,⟨kk,ke⟩,⟨vk,ve⟩,_⟩:=t;obtain⟨ak,ae⟩:=a;simp only[qg,ht,h0,h1,e1,e2,e3,hmod,h5,daa,if_true,if_false,not_true_eq_false,not_false_eq_true,decide_false,decide_true,maa,waa,naa,beq_self_eq_true,oaa,Oab,rac];by_cases hk3:kk=3
    .subst hk3;by_cases hke:ke=0
     .subst hke;rw[show ja ⟨3,0⟩ s.Enums=true from jJ];by_cases hv4:vk=4
      .subst hv4;by_cases hve:ve=0
       .subst hve;rw[show ja ⟨4,0⟩ s.Enums=true from LR];by_cases ha3:ak=3
        .subst ha3;have:=iA ha (by simp)
         simp_all
        simp_all
       simp_all[ja]
      .cases ja ⟨vk,ve⟩ s.Enums<;>by_cases ha3:ak=3<;>by_cases hae:ae=0<;>simp[ha3,hae,hv4,Js,-Prod.exists]
     simp_all[ja]
    .cases ja ⟨kk,ke⟩ s.Enums<;>cases ja ⟨vk,ve⟩ s.Enums<;>by_cases ha3:ak=3<;>by_cases hak:ak=kk<;>by_cases hae:ae=ke<;>simp_all[Js,-Prod.exists]
   simp_all[qg]
  simp_all[qg]
 simp_all[qg]
theorem VT{N:Int}{s:GSignature}{a b c:GType}(hb:ja b s.Enums=true):kA ⟨26,N⟩ [a,b,c] s:=by
 have hu:=Fa (op:=26) (by omega);have hus:Wb 26=false:=rfl;unfold kA Oa ra Da;simp only[hu,hus,nB];obtain⟨bk,be⟩:=b;cases N==0
 .simp
 .by_cases k1:a.Kind=1<;>by_cases k2:bk=c.Kind<;>by_cases k3:be=c.Enum<;>simp[qg,RE,LY,k1,k2,k3,Js,-Prod.exists]
  simp_all
theorem MV{op N:Int}{s:GSignature}{a b:GType}(hop:(11<=op/\op<=24)\/(27<=op/\op<=30)) {ok:Bool}{t':GType}(hI:Da op [a,b]=some (t',ok)) (ht:ok=true->ja t' s.Enums=true) :
 kA ⟨op,N⟩ [a,b] s:=by
 have hu:=Fa (op:=op) (by omega);have hr:(14<=op/\op<=16)/\ra ⟨op,N⟩ [a,b] s=(if(decide (0<=N)&&decide (N<=5))=true then(Da op [a,b]).bind λx=>if x.2=false then some (⟨0,0⟩,8)else some (x.1,0)else some (⟨0,0⟩,3))\/
  ¬(14<=op/\op<=16)/\ra ⟨op,N⟩ [a,b] s=((Da op [a,b]).bind λx=>if x.2=false then some (⟨0,0⟩,8)else some (x.1,0)):=by
  clear hI ht hu;by_cases h:14<=op/\op<=16
  .refine .inl ⟨h,?_⟩
   .unfold ra Me;simp only[fw];rcases(by omega:op=14\/op=15\/op=16)with h|h|h<;>subst h<;>by_cases g1:0<=N<;>by_cases g2:N<=5<;>simp[g1,g2]
  .refine .inr ⟨h,?_⟩
   .unfold ra;rcases(by omega:op=11\/op=12\/op=13\/op=17\/op=18\/op=19\/op=20\/op=21\/op=22\/op=23\/op=24\/op=27\/op=28\/op=29\/op=30)with h|h|h|h|h|h|h|h|h|h|h|h|h|h|h<;>subst h<;>simp
 have fin:∀(hz:Wb op=true\/N=0),ra ⟨op,N⟩ [a,b] s=((Da op [a,b]).bind λx=>if x.2=false then some (⟨0,0⟩,8)else some (x.1,0))->kA ⟨op,N⟩ [a,b] s:=by
  intro hz h2;unfold kA;rw[S3 hu h2 hI hz]
  grind
 rcases hr with⟨h,h2⟩|⟨h,h2⟩
 .have hus:Wb op=true:=by grind[Wb]
  by_cases hN:(decide (0<=N)&&decide (N<=5))=true
  .simp_all
  .rw[Aad]at hN;rw[hN,if_neg (by simp)]at h2;unfold kA Oa
   simp_all
 .have hus:Wb op=false:=by grind[Wb]
  by_cases hN:N=0
  .simp_all
  .unfold kA Oa
   simp_all
theorem YP{op N:Int}{s:GSignature}{a b:GType}(hop:(11<=op/\op<=24)\/(27<=op/\op<=30)) (ha:ja a s.Enums=true):kA ⟨op,N⟩ [a,b] s:=by
 have hz:∀k,1<=k->k<=5->a.Kind=k->a.Enum=0:=λk h1 h2 h=>iA ha (by omega);obtain⟨ak,ae⟩:=a;obtain⟨bk,be⟩:=b;simp only at hz;have hr:∃t' ok,Da op [⟨ak,ae⟩,⟨bk,be⟩]=some (t',ok)/\(ok=true->ja t' s.Enums=true):=by
  unfold Da Vf;simp only[qg,RE,Zg];rcases(by omega:op=11\/op=12\/op=13\/op=14\/op=15\/op=16\/op=17\/op=18\/op=19\/op=20\/op=21\/op=22\/op=23\/op=24\/op=27\/op=28\/op=29\/op=30)with h|h|h|h|h|h|h|h|h|h|h|h|h|h|h|h|h|h<;>subst h
  .by_cases k1:ak=bk/\ae=be
   .cases hn:ou ak<;>simp[k1,hn,ha]
    all_goals grind
   .simp[k1]
  .by_cases k1:ak=bk/\ae=be
   .cases hn:ou ak<;>simp[k1,hn,ha]
    all_goals grind
   .simp[k1]
  .by_cases k1:bk=2<;>by_cases k2:ak=2<;>by_cases k3:ak=3<;>simp[k1,k2,k3,gA,jJ]
  .by_cases k1:bk=4<;>by_cases k2:ak=3<;>by_cases k3:ak=4<;>simp[k1,k2,k3,LR,jJ]
  .by_cases k1:bk=2<;>by_cases k2:ak=2<;>by_cases k3:ak=3<;>by_cases k4:bk=3<;>simp[k1,k2,k3,k4,gA,jJ,LR]
   all_goals simp_all
  .by_cases k1:ak=3<;>by_cases k2:bk=3<;>simp[k1,k2]
   simp_all
  .by_cases k1:ak=bk/\ae=be
   .cases hn:ou ak<;>by_cases k5:ak=5<;>simp[k1,hn,k5,ha]
    all_goals grind
   .simp[k1]
  .by_cases k1:ak=bk/\ae=be
   .cases hn:ou ak<;>by_cases k5:ak=5<;>simp[k1,hn,k5,ha]
    all_goals grind
   .simp[k1]
  .by_cases k1:ak=bk<;>by_cases k2:ae=be<;>simp[k1,k2,iC]
  .by_cases k1:ak=bk<;>by_cases k2:ae=be<;>simp[k1,k2,iC]
  .by_cases k1:ak=bk/\ae=be
   .cases hn:ou ak<;>by_cases k5:ak=5<;>simp[k1,hn,k5,iC]
    all_goals grind[iC]
   .simp[k1]
  .by_cases k1:ak=bk/\ae=be
   .cases hn:ou ak<;>by_cases k5:ak=5<;>simp[k1,hn,k5,iC]
    all_goals grind[iC]
   .simp[k1]
  .by_cases k1:ak=1<;>by_cases k2:bk=1<;>simp[k1,k2]
   grind
  .by_cases k1:ak=1<;>by_cases k2:bk=1<;>simp[k1,k2]
   grind
  .by_cases k1:ak=5<;>by_cases k2:bk=2<;>simp[k1,k2]
   simp_all
  .by_cases k1:ak=5<;>by_cases k2:bk=2<;>simp[k1,k2]
   simp_all
  .by_cases k1:ak=5<;>by_cases k2:bk=5<;>simp[k1,k2,gA]
  .by_cases k1:ak=5<;>by_cases k2:bk=5<;>simp[k1,k2,gA]
 obtain⟨t',ok,h1,h3⟩:=hr
 grind[MV]
theorem rL{n:GNode}{ops:List GType}{s:GSignature}(hop:1<=n.Op/\n.Op<=39) (hN:wb n) (hlen:(ops.length:Int)=gb n.Op) (hv:∀t∈ops,ja t s.Enums=true):kA n ops s:=by
 obtain⟨op,N⟩:=n;simp only at hop hlen;unfold gb at hlen;by_cases h0:(1<=op/\op<=9)\/(35<=op/\op<=39)
 .rw[if_pos h0]at hlen;obtain rfl:ops=[]:=Caa (by omega);rcases(by omega:(1<=op/\op<=5)\/op=6\/op=7\/op=8\/op=9\/op=35\/(36<=op/\op<=39))with h|h|h|h|h|h|h
  .exact UP h rfl
  all_goals grind[kZ,lZ,mZ,nZ,YT,VP]
 rw[if_neg h0]at hlen;by_cases h1:op=10\/op=25\/(31<=op/\op<=34)
 .rw[if_pos h1]at hlen;obtain⟨a,rfl⟩:∃a,ops=[a]:=by
   match ops,hlen with
   |[a],_=>simp
  have ha:=hv a (by simp);rcases(by omega:(op=10\/op=25\/op=31\/op=32)\/op=33\/op=34)with h|h|h
  all_goals grind[XP,WT,XT]
 rw[if_neg h1]at hlen;by_cases h2:op=26
 .rw[if_pos h2]at hlen;obtain⟨a,b,c,rfl⟩:∃a b c,ops=[a,b,c]:=by
   match ops,hlen with
   |[a,b,c],_=>simp
  grind[VT]
 rw[if_neg h2,if_pos (by omega)]at hlen;obtain⟨a,b,rfl⟩:∃a b,ops=[a,b]:=by
  match ops,hlen with
  |[a,b],_=>simp
 grind[YP]
def Pb(e:List GNode) (i:Nat):Nat:=(gb (ua e i).Op).toNat
noncomputable def uw(e:List GNode) (s:GSignature) (st:List GType) (i:Nat):GType×Int:=(Oa (ua e i) (st.drop (st.length-Pb e i)) s).getD (⟨0,0⟩,0)
noncomputable def sq(e:List GNode) (s:GSignature):Nat->List GType
 |0=>[]
 |i+1=>(sq e s i).take ((sq e s i).length-Pb e i)++[(uw e s (sq e s i) i).1]
noncomputable def ux(e:List GNode) (s:GSignature) (i:Nat):Option (GType×Int×Int):=
 if(uw e s (sq e s i) i).2=0 then none else some (⟨0,0⟩,(i:Int),(uw e s (sq e s i) i).2)
noncomputable def Gn(e:List GNode) (s:GSignature):GType×Int×Int:=
 if(tm e).2.2=0 then(match ff (ux e s) e.length with|some v=>v|none=>((sq e s e.length)[0]?.getD ⟨0,0⟩,0,0))else(⟨0,0⟩,(tm e).2.1,(tm e).2.2)
structure Wst (e:List GNode):Prop where
 pos:0<e.length
 le:e.length<=48
 err:∀i,i<e.length->rv e i=none
 one:(Be e e.length).2.length<=1
theorem uH{e:List GNode}(h:(tm e).2.2=0):Wst e:=by
 unfold tm at h;split at h
 .grind
 split at h
 .grind
 rename_i h48 h0;split at h
 .grind[rv,Sa]
 .rename_i hn;split at h
  .grind
  .exact⟨by omega,by omega,Ob.1 hn,by omega⟩
theorem Wst.ar{e:List GNode}(h:Wst e) {i:Nat}(hi:i<e.length):0<=gb (ua e i).Op/\Pb e i<=(Be e i).2.length/\(1<=(ua e i).Op/\(ua e i).Op<=39):=by
 have:=h.err i hi
 grind[rv,Pb,Ew]
theorem rE{e:List GNode}{i:Nat}:(Be e (i+1)).2.length=(Be e i).2.length-Pb e i+1:=by
 simp[Be,Pb]
theorem TT{e:List GNode}(hN:∀n∈e,wb n) {i:Nat}(hi:i<e.length):wb (ua e i):=by
 rw[←Ld hi];simp_all
theorem zt{e:List GNode}{s:GSignature}(h:Wst e) (hN:∀n∈e,wb n):∀i,i<=e.length->(∀j,j<i->ux e s j=none)->(sq e s i).length=(Be e i).2.length/\∀t∈sq e s i,ja t s.Enums=true
 |0,_,_=>by simp[sq,Be]
 |i+1,hi,ht=>by
  obtain⟨h1,h2⟩:=zt h hN i (by omega) λj hj=>ht j (by omega);obtain⟨a1,a2,a3⟩:=h.ar (i:=i) (by omega);refine⟨by grind[sq,rE],?_⟩;intro t hm;simp only[sq,List.mem_append,uab]at hm;rcases hm with hm|rfl
  .grind
  .obtain⟨r,hr,hv⟩:=rL (n:=ua e i) (ops:=(sq e s i).drop ((sq e s i).length-Pb e i)) (s:=s) a3 (TT hN (by omega)) (by grind[Pb]) (λt ht=>h2 t (qac ht));have hz:=ht i (by omega)
   grind[ux,uw]
theorem JD{e:List GNode}{s:GSignature}(h:Wst e) (hN:∀n∈e,wb n) {i:Nat}(hi:i<e.length) (ht:∀j,j<i->ux e s j=none) :
 Oa (ua e i) ((sq e s i).drop ((sq e s i).length-Pb e i)) s=some (uw e s (sq e s i) i):=by
 obtain⟨h1,h2⟩:=zt h hN i (by omega) ht;obtain⟨a1,a2,a3⟩:=h.ar hi;obtain⟨r,hr,hv⟩:=rL (n:=ua e i) (ops:=(sq e s i).drop ((sq e s i).length-Pb e i)) (s:=s) a3 (TT hN hi) (by grind[Pb]) (λt ht=>h2 t (qac ht))
 grind[uw]
theorem dU{e:List GNode}{s:GSignature}(h:Wst e) (hN:∀n∈e,wb n) {i:Nat}(hi:i<e.length) (ht:∀j,j<i->ux e s j=none) :
 Oa (ua e i) ((sq e s i).drop ((sq e s i).length-Pb e i)) s=some (uw e s (sq e s i) i)/\Pa (ua e i) ((sq e s i).drop ((sq e s i).length-Pb e i)) s=some (uw e s (sq e s i) i):=by
 obtain⟨h1,h2⟩:=zt h hN i (by omega) ht;obtain⟨a1,a2,a3⟩:=h.ar hi;obtain⟨e1,r,hr,hv⟩:=eU (n:=ua e i) (ops:=(sq e s i).drop ((sq e s i).length-Pb e i)) (s:=s) a3 (TT hN hi) (by grind[Pb]) (λt ht=>h2 t (qac ht))
 grind[JD]
theorem nw{e:List GNode}(hN:∀n∈e,wb n) (s:GSignature):Zl e s=some (Gn e s):=by
 unfold Zl Gn;rw[qo,daa];by_cases h0:(tm e).2.2=0
 .rw[if_neg (by omega),if_pos h0];have hw:=uH h0;have hl:fa (Nj e s) (([]:List GType),0)=some (Mb (sq e s e.length) (ff (ux e s) e.length)):=by
   refine Lb (λi=>(sq e s i,(i:Int))) (ux e s) e.length _ (λi hi ht=>?_) (λ_=>?_)
   .obtain⟨n1,n2⟩:=dU hw hN hi ht;obtain⟨h1,h2⟩:=zt hw hN i (by omega) ht;obtain⟨a1,a2,a3⟩:=hw.ar hi;have hle:=hw.le;have h12:=En (e:=e) (i:=i) λj hj=>hw.err j (by omega);unfold Nj ux;simp only;have hsub:da .i64 (((sq e s i).length:Int)-gb (ua e i).Op)=(((sq e s i).length-Pb e i:Nat):Int):=by
     grind[Pb,wid]
    rw[if_pos (by omega),Aa hi,daa,Ld hi,Ip,daa,hsub,HW (by omega),daa,n2,daa];by_cases hz:(uw e s (sq e s i) i).2=0
    .rw[if_neg (by omega),if_pos hz,xu (by omega),daa,Hf (by grind),daa,ya (by omega)];rfl
    .rw[if_pos hz,if_neg hz];rfl
   grind[Nj]
  rw[hl]
  cases hf:ff (ux e s) e.length with
  |some v=>rfl
  |none=>
   obtain⟨h1,h2⟩:=zt (s:=s) hw hN e.length (by omega) (Ob.1 hf);have:0<(sq e s e.length).length:=by
    rw[h1];obtain⟨k,hk⟩:∃k,e.length=k+1:=⟨e.length-1,by have:=hw.pos;omega⟩
    grind[rE]
   simp only[Mb,daa];rw[show(0:Int)=((0:Nat):Int)from rfl,Aa this,daa,faa this];rfl
 simp_all
theorem Cx{e:List GNode}(hN:∀n∈e,wb n) (s:GSignature):yn e s=some (Gn e s):=by
 unfold yn Gn;rw[Fi,daa];by_cases h0:(tm e).2.2=0
 .rw[if_neg (by omega),if_pos h0];have hw:=uH h0;have hl:fa (Vk e s) (([]:List GType),0)=some (Mb (sq e s e.length) (ff (ux e s) e.length)):=by
   refine Lb (λi=>(sq e s i,(i:Int))) (ux e s) e.length _ (λi hi ht=>?_) (λ_=>?_)
   .have n1:=JD hw hN hi ht;obtain⟨h1,h2⟩:=zt hw hN i (by omega) ht;obtain⟨a1,a2,a3⟩:=hw.ar hi;have hle:=hw.le;have h12:=En (e:=e) (i:=i) λj hj=>hw.err j (by omega);unfold Vk ux;simp only;have hsub:da .i64 (((sq e s i).length:Int)-gb (ua e i).Op)=(((sq e s i).length-Pb e i:Nat):Int):=by
     grind[Pb,wid]
    rw[if_pos (by omega),Aa hi,daa,Ld hi];unfold Oa at n1;rw[Fa a3]at n1⊢;have hj:(if¬(ua e i).N=0 then(some (Wb (ua e i).Op)).bind λx8=>some (!x8)else some false)=some (!(ua e i).N==0&&!Wb (ua e i).Op):=by
     grind
    rw[hj]at n1⊢;rw[daa]at n1⊢;generalize (!(ua e i).N==0&&!Wb (ua e i).Op)=c at n1⊢;cases c
    .rw[if_neg (by simp)]at n1⊢;rw[Jf,daa,hsub,HW (by omega),daa,n1,daa];by_cases hz:(uw e s (sq e s i) i).2=0
     .rw[if_neg (by omega),if_pos hz,xu (by omega),daa,Hf (by grind),daa,ya (by omega)];rfl
     .rw[if_pos hz,if_neg hz];rfl
    .rw[if_pos rfl]at n1⊢;injection n1 with n1;rw[←n1,if_neg (by decide)];rfl
   grind[Vk]
  rw[hl]
  cases hf:ff (ux e s) e.length with
  |some v=>rfl
  |none=>
   obtain⟨h1,h2⟩:=zt (s:=s) hw hN e.length (by omega) (Ob.1 hf);have:0<(sq e s e.length).length:=by
    rw[h1];obtain⟨k,hk⟩:∃k,e.length=k+1:=⟨e.length-1,by have:=hw.pos;omega⟩
    grind[rE]
   simp only[Mb,daa];rw[show(0:Int)=((0:Nat):Int)from rfl,Aa this,daa,faa this];rfl
 simp_all
end Go.Proofs.Dev
namespace Go.Tm
theorem nu{x n:Int}:∀{l:List Int},x∈Ii l n↔x∈l\/x=n
 |[]=>by simp[Ii]
 |y::l=>by
  simp only[Ii];split
  .grind
  .simp only[oab,nu (l:=l)];grind
abbrev vH(l:List Int):Prop:=l.Pairwise (·<·)
theorem Xv{n:Int}:∀{l:List Int},vH l->vH (Ii l n)
 |[],_=>by simp[Ii]
 |y::l,h=>by
  have h':=vab.1 h;simp only[Ii];split
  .split
   .refine vab.2 ⟨λz hz=>?_,h⟩
    grind
   omega
  .refine vab.2 ⟨λz hz=>?_,Xv h'.2⟩;rcases nu.1 hz with hz|rfl
   all_goals simp_all
theorem Bz{n:Int}:∀{l:List Int},(Ii l n).length<=l.length+1
 |[]=>by simp[Ii]
 |y::l=>by
  simp only[Ii];split
  .grind
  .have:=Bz (n:=n) (l:=l);simp_all
theorem cL{n:Int}:∀{l:List Int},(∀x∈l,x<n)->Ii l n=l++[n]
 |[],_=>rfl
 |y::l,h=>by
  have:=h y (by simp);simp only[Ii];rw[if_neg (by omega),cL λx hx=>h x (by grind)];rfl
theorem vI{n:Int}{r:List Int}:∀{l:List Int},(∃x∈l,n<=x)->Ii (l++r) n=Ii l n++r
 |[],h=>by grind
 |y::l,h=>by
  simp only[Ii,Naa];split
  .grind
  .rename_i hny;rw[vI (l:=l),Naa]
   simp_all
theorem zA{n x:Int}:∀{l:List Int},(∀y∈l,y<n)->n<=x->Ii (l++[x]) n=l++(if n<x then [n,x]else [x])
 |[],_,h=>by simp_all[Ii]
 |y::l,hl,h=>by
  have:=hl y (by simp);simp only[Ii,Naa];rw[if_neg (by omega),zA (λy hy=>hl y (by grind)) h]
theorem DI{α A β ρ:Type}{step:A×Int->Option (Ex (A×Int) β ρ)}(xs:List α) (f:A->α->A) (a0:A) (b:β) {x0:A×Int}(hx:x0=(a0,0))
 (hgo:∀(i:Nat) (hi:i<xs.length),step ((xs.take i).foldl f a0,(i:Int))=some (.go (f ((xs.take i).foldl f a0) xs[i],((i+1:Nat):Int)))) (hend:step (xs.foldl f a0,(xs.length:Int))=some (.brk b)) :
 fa step x0=some (.inl b):=by
 refine Xc (λi=>((xs.take i).foldl f a0,(i:Int))) xs.length b (λi hi=>?_) ?_ (by simp_all)
 all_goals grind[Raa]
end Go.Tm
namespace Go.Proofs.Dev
open Go Go.Tm
theorem DP{l:List Int}{n:Int}(hl:l.length<=1099511627776):fa (Oj l n) (([]:List Int),false,0)=some (.inl (if(l.any λx=>decide (n<=x))=true then Ii l n else l,l.any λx=>decide (n<=x))):=by
 refine Xc (λi=>(if((l.take i).any λx=>decide (n<=x))=true then Ii (l.take i) n else l.take i,(l.take i).any λx=>decide (n<=x),(i:Int))) l.length _ (λi hi=>?_) ?_ (by simp)
 .unfold Oj;simp only;have ht:l.take (i+1)=l.take i++[l[i]]:=by simp
  have hlen:(l.take i).length=i:=by grind
  rw[if_pos (by omega),ht,List.any_append,Aa hi];generalize l[i]=x;generalize l.take i=p at hlen⊢;cases hp:p.any λx=>decide (n<=x)
  .have hall:∀y∈p,y<n:=λy hy=>by
    simp_all
   simp only[if_true,daa,maa,if_false,Bool.false_or,List.any_cons,List.any_nil,qad];by_cases hx:n<=x
   .rw[decide_eq_true hx];simp only[if_true];by_cases hx2:n<x
    .rw[if_pos hx2,Hf (by grind),daa,daa,daa];simp only;rw[Hf (by grind),daa,ya (by omega),zA hall hx,if_pos hx2];simp
    .rw[if_neg hx2,daa,daa];simp only;rw[Hf (by grind),daa,ya (by omega),zA hall hx,if_neg hx2]
   .rw[decide_eq_false hx];simp only[maa,if_false,daa]
    grind[Hf,ya]
  .have hex:∃y∈p,n<=y:=by
    simp_all
   have:=Bz (n:=n) (l:=p);simp only[waa,if_false,daa,if_true,maa,Bool.true_or]
   grind[Hf,ya,vI]
 grind[Oj]
theorem mo{l:List Int}{n:Int}(hl:l.length<=1099511627776):sj l n=some (Ii l n):=by
 unfold sj;rw[DP hl,daa];simp only;cases hp:l.any λx=>decide (n<=x)
 .have hall:∀y∈l,y<n:=λy hy=>by
   simp_all
  simp only[if_true,maa,if_false]
  grind[Hf,cL]
 simp
theorem sw{l:List Int}{n:Int}(hl:l.length<=1099511627776):wj l n=some (Ii l n):=by
 rw[←mo hl];rfl
end Go.Proofs.Dev
namespace Go.Tm
theorem OC{l:List Int}{x:Int}:Sd (l++[x])=Ii (Sd l) x:=by simp[Sd,List.foldl_append]
theorem Wl(l:List Int):vH (Sd l)/\(Sd l).length<=l.length/\∀x,x∈Sd l↔x∈l:=by
 have key:∀(l a:List Int),vH a->vH (l.foldl Ii a)/\(l.foldl Ii a).length<=a.length+l.length/\∀x,x∈l.foldl Ii a↔x∈a\/x∈l:=by
  intro l
  induction l with
  |nil=>simp
  |cons y l ih=>
   intro a h;obtain⟨h1,h2,h3⟩:=ih (Ii a y) (Xv h);have:=Bz (n:=y) (l:=a);refine⟨h1,by grind,λx=>?_⟩
   simp_all[sab,nu,oab,or_assoc]
 obtain⟨h1,h2,h3⟩:=key l [] (by simp)
 grind[Sd]
theorem SG{lo hi:Int}:∀{a:List Int},vH a->(∀x∈a,lo<=x/\x<hi)->a.length<=(hi-lo).toNat
 |[],_,_=>by simp
 |x::a,h,hb=>by
  have h':=vab.1 h;have hx:=hb x (by simp);have:=SG (lo:=x+1) (hi:=hi) h'.2 λy hy=>⟨by grind,(hb y (by grind)).2⟩
  grind
theorem sz:∀{a b:List Int},vH a->vH b->(∀x,x∈a↔x∈b)->a=b
 |[],[],_,_,_=>rfl
 |[],y::b,_,_,h=>by have:=(h y).2 (by simp);simp_all
 |x::a,[],_,_,h=>by have:=(h x).1 (by simp);simp_all
 |x::a,y::b,ha,hb,h=>by
  have ha':=vab.1 ha;have hb':=vab.1 hb;have hxy:x=y:=by
   have h1:=(h x).1 (by simp);have h2:=(h y).2 (by simp)
   grind
  subst hxy;rw[sz ha'.2 hb'.2 λz=>?_]
  grind
end Go.Tm
namespace Go.Proofs.Dev
open Go Go.Tm
def Ev(p:GNode->Bool) (e:List GNode):List Int:=Sd ((e.filter p).map (·.N))
theorem TO{p:GNode->Bool}{l:List GNode}{x:GNode}:Ev p (l++[x])=if p x=true then Ii (Ev p l) x.N else Ev p l:=by
 unfold Ev;rw[rab,List.map_append];by_cases h:p x=true
 all_goals simp_all[if_pos,List.filter_cons_of_pos,List.filter_nil,OC,if_neg,List.filter_cons_of_neg]
theorem Tq{p:GNode->Bool}{e:List GNode}:(Ev p e).length<=e.length:=by
 grind[Ev,Wl,gab]
def wI(n:GNode):Bool:=n.Op==7
def xd(n:GNode):Bool:=n.Op==8
def rB(n:GNode):Bool:=n.Op==36 || n.Op==37 || n.Op==38 || n.Op==39
def mq(e:List GNode):List Int×List Int×List Int:=(Ev wI e,Ev xd e,Ev rB e)
theorem sz:∀{a b:List Int},vH a->vH b->(∀x,x∈a↔x∈b)->a=b
 |[],[],_,_,_=>rfl
 |[],y::b,_,_,h=>by have:=(h y).2 (by simp);simp_all
 |x::a,[],_,_,h=>by have:=(h x).1 (by simp);simp_all
 |x::a,y::b,ha,hb,h=>by
  obtain⟨ha1,ha2⟩:=vab.1 ha;obtain⟨hb1,hb2⟩:=vab.1 hb;have hxy:x=y:=by
   have h1:=(h x).1 (by simp);have h2:=(h y).2 (by simp)
   grind
  subst hxy;rw[sz ha2 hb2 λz=>?_]
  grind
theorem Bx{d:Array Int}(hs:∀i j,i<j->j<d.size->d[i]!<=d[j]!):∀m,m<=d.size->vH (Go.Lib.compactUpTo d m)/\∀x,x∈Go.Lib.compactUpTo d m↔∃i,i<m/\d[i]! = x
 |0,_=>⟨by simp[Go.Lib.compactUpTo,vH],by simp[Go.Lib.compactUpTo]⟩
 |m+1,hm=>by
  obtain⟨ih1,ih2⟩:=Bx hs m (by omega);have hle:∀i,i<m->d[i]!<=d[m-1]!:=by
   intro i hi;by_cases h:i=m-1
   .simp_all
   .exact hs i (m-1) (by omega) (by omega)
  rw[Go.Lib.compactUpTo_succ];by_cases hk:Go.Lib.keeps d m=true
  .rw[if_pos hk];refine⟨?_,λx=>?_⟩
   .unfold vH;rw[List.pairwise_append];refine⟨ih1,by simp,λa ha c hc=>?_⟩;obtain⟨i,hi,rfl⟩:=(ih2 a).1 ha;obtain rfl:=uab.1 hc;have hne:d[m]!≠d[m-1]!:=by
     have:=of_decide_eq_true hk;omega
    have h1:=hle i hi;have h2:=hs (m-1) m (by omega) (by omega);omega
   grind
  .rw[if_neg hk,List.append_nil];refine⟨ih1,λx=>?_⟩;rw[ih2];have hk':Go.Lib.keeps d m=false:=by simp_all
   have hmm:¬(m=0\/d[m]!≠d[m-1]!):=of_decide_eq_false hk'
   grind
theorem Ap(l:List Int):Go.Lib.compact (l.mergeSort λx y=>decide (x<=y))=Sd l:=by
 have hp:=List.pairwise_mergeSort (le:=λ(x y:Int)=>decide (x<=y)) (λa b c h1 h2=>by grind) (λa b=>by grind) l;have hm:∀x,x∈(l.mergeSort λx y=>decide (x<=y))↔x∈l:=λx=>List.mem_mergeSort;generalize (l.mergeSort λx y=>decide (x<=y))=q at *;obtain⟨h1,h2⟩:=Bx (d:=q.toArray) (λi j hij hj=>by
  grind[List.pairwise_iff_getElem]) q.length (by simp)
 obtain⟨g1,-,g2⟩:=Wl l;refine sz h1 g1 λx=>?_;unfold Go.Lib.compact;rw[h2,g2,←hm x];constructor
 .grind
 .intro h;obtain⟨i,hi,rfl⟩:=List.mem_iff_getElem.1 h;exact⟨i,hi,by simp_all⟩
theorem yq{l:List Int}(h:l.length<=1099511627776):ei l=some (Sd l):=by
 unfold ei fb Ma;rw[if_pos (by omega),daa,if_pos (by simp;omega),daa,Ap]
theorem qA{l:List Int}(h:l.length<=8796093022208):Bi l=some (Sd l):=by
 simp_all[Bi,fb,Ma,if_pos,daa,Ap]
theorem Tv{p:GNode->Bool}{l:List GNode}{x:GNode}:((l++[x]).filter p).map (·.N)=if p x=true then(l.filter p).map (·.N)++[x.N]else(l.filter p).map (·.N):=by
 grind
theorem Ws{e:List GNode}(h:e.length<=1099511627776):Yg e=some (mq e):=by
 unfold Yg;have hb:∀(p:GNode->Bool) (i:Nat),(((e.take i).filter p).map (·.N)).length<=e.length:=λp i=>by
  grind
 have hl:fa (ng e) (([]:List Int),([]:List Int),([]:List Int),0)=some (.inl ((e.filter wI).map (·.N),(e.filter xd).map (·.N),(e.filter rB).map (·.N))):=by
  refine Xc (λi=>(((e.take i).filter wI).map (·.N),((e.take i).filter xd).map (·.N),((e.take i).filter rB).map (·.N),(i:Int))) e.length _ (λi hi=>?_) ?_ rfl
  .have ht:e.take (i+1)=e.take i++[e[i]]:=by simp
   have b1:=hb wI i;have b2:=hb xd i;have b3:=hb rB i;unfold ng;simp only;rw[if_pos (by omega),Aa hi,daa,ya (by omega),ht,Tv,Tv,Tv]
   grind[wI,xd,rB,Hf]
  simp_all[ng,if_neg,Nab]
 have c:∀p:GNode->Bool,((e.filter p).map (·.N)).length<=1099511627776:=λp=>by
  grind
 rw[hl,daa];simp only;rw[yq (c wI),daa,yq (c xd),daa,yq (c rB),daa];rfl
theorem Rr{e:List GNode}(h:e.length<=1099511627776):Xf e=some (mq e):=by
 unfold Xf;have hl:fa (Cf e) (([]:List Int),([]:List Int),([]:List Int),0)=some (.inl (mq e)):=by
  refine Xc (λi=>((mq (e.take i)).1,(mq (e.take i)).2.1,(mq (e.take i)).2.2,(i:Int))) e.length _ (λi hi=>?_) ?_ rfl
  .have ht:e.take (i+1)=e.take i++[e[i]]:=by simp
   have hlen:(e.take i).length<=1099511627776:=by grind
   have l1:=Tq (p:=wI) (e:=e.take i);have l2:=Tq (p:=xd) (e:=e.take i);have l3:=Tq (p:=rB) (e:=e.take i);unfold Cf mq;simp only[ht,TO];rw[if_pos (by omega),Aa hi,ya (by omega)];generalize e[i]=x;simp only[daa,mo (yab l1 hlen),mo (yab l2 hlen),mo (yab l3 hlen),fw]
   grind[eaa,decide,wI,Ii,Ev,xd,rB]
  grind[Cf]
 simp_all
def Yv(n:Int) (a:List Int) (x:Int):List Int:=if 0<=x/\x<n then Ii a x else a
def Iy(n:Int) (a:List Int):Prop:=vH a/\∀x∈a,0<=x/\x<n
theorem Iy.len{n:Int}{a:List Int}(h:Iy n a):a.length<=n.toNat:=by
 have:=SG (lo:=0) (hi:=n) h.1 h.2;omega
theorem Iy.nil{n:Int}:Iy n []:=⟨by simp,by simp⟩
theorem Iy.ins{n:Int}{a:List Int}{x:Int}(h:Iy n a):Iy n (Yv n a x):=by
 unfold Yv;split
 .rename_i hx;refine⟨Xv h.1,λy hy=>?_⟩;rcases nu.1 hy with hy|rfl
  .exact h.2 y hy
  omega
 omega
theorem Iy.fold{n:Int}:∀{l a:List Int},Iy n a->Iy n (l.foldl (Yv n) a)
 |[],a,h=>h
 |x::l,a,h=>Iy.fold (l:=l) h.ins
theorem FD{n x:Int}:∀{l a:List Int},x∈l.foldl (Yv n) a↔x∈a\/(x∈l/\0<=x/\x<n)
 |[],a=>by simp
 |y::l,a=>by
  simp only[sab];rw[FD (l:=l)];unfold Yv;split
  .rename_i hy;rw[nu,oab]
   grind
  grind
theorem yy(s:GScope) (d:Int):Ur s d=some (decide (0<=d)&&decide (d<(s.Defs.length:Int))):=by
 grind[Ur]
def yw(r:GRule):List Int:=Ev xd r.Guard++Ev xd r.Value
def MC(n d:Int) (a:List Int) (r:GRule):List Int:=if r.Def=d then(yw r).foldl (Yv n) a else a
def az(s:GScope) (d:Int):List Int:=if 0<=d/\d<(s.Defs.length:Int)then s.Rules.foldl (MC s.Defs.length d) []else []
structure ScOk (s:GScope):Prop where
 defs:s.Defs.length<=1048576
 rules:s.Rules.length<=1048576
 g:∀r∈s.Rules,r.Guard.length<=1048576/\r.Value.length<=1048576
theorem UO{n d:Int}{a:List Int}{r:GRule}(h:Iy n a):Iy n (MC n d a r):=by
 unfold MC;split
 .exact h.fold
 omega
theorem Nv{n d:Int}:∀{l:List GRule}{a:List Int},Iy n a->Iy n (l.foldl (MC n d) a)
 |[],a,h=>h
 |r::l,a,h=>Nv (l:=l) (UO h)
theorem bz(s:GScope) (d:Int):Iy s.Defs.length (az s d):=by
 grind[az,Nv,Iy.nil]
theorem dB{s:GScope}(hs:ScOk s) {l:List Int}(hl:l.length<=1099511627776) {a:List Int}(ha:Iy s.Defs.length a) {step:List Int×Int->Option (Ex (List Int×Int) (List Int) Unit)}
 (hstep:∀(a:List Int) (i:Nat) (hi:i<l.length),step (a,(i:Int))=(eaa (α:=List Int) (if(decide (0<=l[i])&&decide (l[i]<(s.Defs.length:Int)))=true then(wj a l[i]).bind λx=>some x else some a) λj=>some (.go (j,da .i64 ((i:Int)+1)))))
 (hend:∀a,step (a,(l.length:Int))=some (.brk a)):fa step (a,0)=some (.inl (l.foldl (Yv s.Defs.length) a)):=by
 refine DI l (Yv s.Defs.length) a _ rfl (λi hi=>?_) (hend _);have hI:=(Iy.fold (l:=l.take i) ha).len;have:=hs.defs;rw[hstep _ i hi,ya (by omega)];generalize (l.take i).foldl (Yv s.Defs.length) a=b at hI⊢;unfold Yv;by_cases h:0<=l[i]/\l[i]<(s.Defs.length:Int)
 .rw[if_pos (by simp_all),if_pos h,sw (by omega)];rfl
 grind
theorem qw{s:GScope}(hs:ScOk s) (d:Int):cm s d=some (az s d):=by
 unfold cm az;rw[yy,daa];by_cases hd:0<=d/\d<(s.Defs.length:Int)
 .rw[if_neg (by simp_all),if_pos hd];have hl:fa (Vi s d) (([]:List Int),0)=some (.inl (s.Rules.foldl (MC s.Defs.length d) [])):=by
   refine DI s.Rules (MC s.Defs.length d) [] _ rfl (λi hi=>?_) ?_
   .have hI:Iy s.Defs.length ((s.Rules.take i).foldl (MC s.Defs.length d) []):=Nv Iy.nil;have:=hs.rules;have hg:=hs.g _ (laa hi);unfold Vi;simp only;rw[if_pos (by omega),Aa hi,ya (by omega)];generalize (s.Rules.take i).foldl (MC s.Defs.length d) []=a at hI⊢;generalize s.Rules[i]=r at hg⊢;unfold MC;by_cases h:r.Def=d
    .rw[if_pos h,daa,if_neg (by omega),Rr (by omega),daa,Rr (by omega),daa];have l1:=Tq (p:=xd) (e:=r.Guard);have l2:=Tq (p:=xd) (e:=r.Value);have b1:fa (gm s (mq r.Guard)) (a,0)=some (.inl ((Ev xd r.Guard).foldl (Yv s.Defs.length) a)):=by
      refine dB hs (l:=Ev xd r.Guard) (by omega) hI (λa i hi=>?_) (λa=>?_)
      all_goals simp_all[gm,mq,if_pos,Aa,daa,yy]
     rw[b1,daa];simp only;have b2:fa (fm s (mq r.Value)) ((Ev xd r.Guard).foldl (Yv s.Defs.length) a,0)=some (.inl ((Ev xd r.Value).foldl (Yv s.Defs.length) ((Ev xd r.Guard).foldl (Yv s.Defs.length) a))):=by
      refine dB hs (l:=Ev xd r.Value) (by omega) (Iy.fold hI) (λa i hi=>?_) (λa=>?_)
      all_goals simp_all[fm,mq,if_pos,Aa,daa,yy]
     grind[yw]
    simp_all
   grind[Vi]
  simp_all
 grind
def xC(s:GScope) (d x:Int):Prop:=(0<=d/\d<(s.Defs.length:Int))/\(0<=x/\x<(s.Defs.length:Int))/\∃r∈s.Rules,r.Def=d/\x∈yw r
theorem Ez{s:GScope}{d x:Int}:x∈az s d↔xC s d x:=by
 have key:∀(l:List GRule) (a:List Int),x∈l.foldl (MC s.Defs.length d) a↔x∈a\/(0<=x/\x<(s.Defs.length:Int))/\∃r∈l,r.Def=d/\x∈yw r:=by
  intro l
  induction l with
  |nil=>simp
  |cons r l ih=>
   intro a;simp only[sab];rw[ih];unfold MC;split
   .rename_i hr;rw[FD]
    grind
   simp_all
 unfold az xC
 simp_all
end Go.Proofs.Dev
namespace Go.Tm
theorem Hx{α:Type} [DecidableEq α]:∀{a b:List α},a.Nodup->(∀x∈a,x∈b)->a.length<=b.length
 |[],b,_,_=>by simp
 |x::a,b,h,hs=>by
  obtain⟨h1,h2⟩:=Had.1 h;have:=Hx (a:=a) (b:=b.erase x) h2 λy hy=>by
   grind
  grind
theorem RM{a:List Int}(h:vH a):a.Nodup:=h.imp λh he=>by omega
end Go.Tm
namespace Go.Proofs.Dev
open Go Go.Tm
inductive Way (s:GScope):Int->Int->Prop
 |one {a b:Int} (h:xC s a b):Way s a b
 |step {a b c:Int} (h:Way s a b) (h2:xC s b c):Way s a c
def HV(s:GScope) (a:List Int) (x:Int):List Int:=(az s x).foldl Ii a
def trR(s:GScope) (a:List Int):List Int:=a.foldl (HV s) a
def cA(s:GScope) (d:Int):Nat->List Int
 |0=>az s d
 |k+1=>trR s (cA s d k)
theorem AA{n:Int}:∀{l a:List Int},(∀x∈l,0<=x/\x<n)->l.foldl Ii a=l.foldl (Yv n) a
 |[],a,_=>rfl
 |x::l,a,h=>by
  simp only[sab];rw[show Yv n a x=Ii a x from if_pos (h x (by simp)),AA λy hy=>h y (by grind)]
theorem ER(s:GScope) (a:List Int) (x:Int):HV s a x=(az s x).foldl (Yv s.Defs.length) a:=AA (bz s x).2
theorem IV{s:GScope}{a:List Int}{x:Int}(h:Iy s.Defs.length a):Iy s.Defs.length (HV s a x):=by rw[ER];exact h.fold
theorem JV{s:GScope}{a:List Int}{x y:Int}:y∈HV s a x↔y∈a\/xC s x y:=by
 rw[ER,FD];constructor
 .grind[Ez]
 .rintro(h|h)
  .simp_all
  .exact .inr ⟨Ez.2 h,h.2.1⟩
theorem Hy{s:GScope}:∀{l a:List Int},Iy s.Defs.length a->Iy s.Defs.length (l.foldl (HV s) a)
 |[],a,h=>h
 |x::l,a,h=>Hy (l:=l) (IV h)
theorem Hs{s:GScope}{y:Int}:∀{l a:List Int},y∈l.foldl (HV s) a↔y∈a\/∃x∈l,xC s x y
 |[],a=>by simp
 |x::l,a=>by
  simp only[sab];rw[Hs (l:=l),JV]
  grind
theorem dA(s:GScope) (d:Int):∀k,Iy s.Defs.length (cA s d k)
 |0=>bz s d
 |k+1=>Hy (dA s d k)
theorem XA{s:GScope}{d y:Int}:∀{k:Nat},y∈cA s d k->Way s d y
 |0,h=>.one (Ez.1 h)
 |k+1,h=>by
  rcases Hs.1 h with h|⟨x,h1,h2⟩
  .exact XA h
  .exact .step (XA h1) h2
theorem wE{s:GScope}{d y:Int}{k:Nat}(h:y∈cA s d k):y∈cA s d (k+1):=Hs.2 (.inl h)
theorem fJ{s:GScope}{d y:Int}(h:xC s d y):∀k,y∈cA s d k
 |0=>Ez.2 h
 |k+1=>wE (fJ h k)
def XW(s:GScope) (a:List Int):Prop:=∀x∈a,∀y,xC s x y->y∈a
open Classical in
theorem gJ{s:GScope}{d:Int}:∀k,XW s (cA s d k)\/k+1<=(cA s d k).length
 |0=>by
  cases h:cA s d 0 with
  |nil=>exact .inl λx hx=>by simp at hx
  |cons x l=>exact .inr (by simp)
 |k+1=>by
  by_cases hc:XW s (cA s d k)
  .refine .inl λx hx y hy=>?_;have hx':x∈cA s d k:=by
    rcases Hs.1 hx with h|⟨z,h1,h2⟩
    .exact h
    .exact hc z h1 x h2
   exact wE (hc x hx' y hy)
  .rcases gJ k with h|h
   .exact(hc h).elim
   .right;obtain⟨x,hx⟩:=fad.1 hc;obtain⟨hx1,hx2⟩:=vad.1 hx;obtain⟨y,hy⟩:=fad.1 hx2;obtain⟨hy1,hy2⟩:=vad.1 hy;have:=Hx (a:=y::cA s d k) (b:=cA s d (k+1)) (Had.2 ⟨hy2,RM (dA s d k).1⟩) λz hz=>by
     rcases oab.1 hz with rfl|hz
     .exact Hs.2 (.inr ⟨x,hx1,hy1⟩)
     .exact wE hz
    simp only[List.length_cons]at this;omega
theorem FR(s:GScope) (d:Int):XW s (cA s d s.Defs.length):=by
 rcases gJ (s:=s) (d:=d) s.Defs.length with h|h
 .exact h
 .have:=(dA s d s.Defs.length).len;omega
theorem pL{s:GScope}{d y:Int}:y∈cA s d s.Defs.length↔Way s d y:=by
 constructor
 .exact XA
 .intro h
  induction h with
  |one h=>grind[fJ]
  |step h h2 ih=>exact FR s d _ ih _ h2
theorem xy{s:GScope}(hs:ScOk s) (d:Int):Wi s d=some (cA s d s.Defs.length):=by
 unfold Wi;have hn:=hs.defs;have round:∀a,Iy s.Defs.length a->fa (Se s a) (a,0)=some (.inl (trR s a)):=by
  intro a ha;have:=ha.len;refine DI a (HV s) a _ rfl (λi hi=>?_) (by grind[Se,trR]);have hI:Iy s.Defs.length ((a.take i).foldl (HV s) a):=Hy ha;unfold Se;simp only;rw[if_pos (by omega),Aa hi,daa,qw hs,daa,ya (by omega)];generalize (a.take i).foldl (HV s) a=b at hI⊢;have hd:=(bz s a[i]).len;have hb:fa (Re (az s a[i])) (b,0)=some (.inl ((az s a[i]).foldl Ii b)):=by
   refine DI (az s a[i]) Ii b _ rfl (λk hk=>?_) (by grind[Re]);have hI2:Iy s.Defs.length (((az s a[i]).take k).foldl Ii b):=by
    rw[AA λx hx=>(bz s a[i]).2 x (List.mem_of_mem_take hx)];exact hI.fold
   have:=hI2.len;unfold Re;simp only;rw[if_pos (by omega),Aa hk,daa,sw (by omega),daa,ya (by omega)]
  rw[hb,daa];rfl
 have hl:fa (Te s) (az s d,0)=some (.inl (cA s d s.Defs.length)):=by
  refine Xc (λi=>(cA s d i,(i:Int))) s.Defs.length _ (λi hi=>?_) (by grind[Te]) rfl;unfold Te;simp only;rw[if_pos (by omega),round _ (dA s d i),daa,ya (by omega)];rfl
 grind[qw]
def wD(n:Int) (l:List Int):List Int:=l.filter λx=>decide (0<=x)&&decide (x<n)
theorem EF{n:Int}{l a:List Int}(h:a.length+l.length<=1099511627776) {step:List Int×Int->Option (Ex (List Int×Int) (List Int) Unit)}
 (hstep:∀(a:List Int) (i:Nat) (hi:i<l.length),step (a,(i:Int))=(eaa (α:=List Int) (if(decide (0<=l[i])&&decide (l[i]<n))=true then(app 8 a [l[i]]).bind λx=>some x else some a) λj=>some (.go (j,da .i64 ((i:Int)+1)))))
 (hend:∀a,step (a,(l.length:Int))=some (.brk a)):fa step (a,0)=some (.inl (a++wD n l)):=by
 refine Xc (λi=>(a++wD n (l.take i),(i:Int))) l.length _ (λi hi=>?_) ?_ (by simp[wD])
 .have hlen:(wD n (l.take i)).length<=i:=by
   grind[wD]
  have ht:wD n (l.take (i+1))=wD n (l.take i)++(if(decide (0<=l[i])&&decide (l[i]<n))=true then [l[i]]else []):=by
   grind[wD,Raa]
  grind[ya,Hf]
 simp_all
theorem Vp{r:GRule}(h:r.Guard.length<=1048576/\r.Value.length<=1048576) (n:Int):od r n=some (wD n (Ev xd r.Guard)++wD n (Ev xd r.Value)):=by
 unfold od;have l1:=Tq (p:=xd) (e:=r.Guard);have l2:=Tq (p:=xd) (e:=r.Value);have l3:(wD n (Ev xd r.Guard)).length<=(Ev xd r.Guard).length:=gab _ _;rw[Ws (by omega),daa,Ws (by omega),daa];have b1:fa (ee n (mq r.Guard)) (([]:List Int),0)=some (.inl ([]++wD n (Ev xd r.Guard))):=by
  refine EF (l:=Ev xd r.Guard) (by grind) (λa i hi=>?_) (λa=>?_)
  .unfold ee mq;simp only;rw[if_pos (by omega),Aa hi,daa]
   grind
  grind[ee,mq]
 rw[b1,daa];simp only[List.nil_append];have b2:fa (Zd n (mq r.Value)) (wD n (Ev xd r.Guard),0)=some (.inl (wD n (Ev xd r.Guard)++wD n (Ev xd r.Value))):=by
  refine EF (l:=Ev xd r.Value) (by omega) (λa i hi=>?_) (λa=>?_)
  .unfold Zd mq;simp only;rw[if_pos (by omega),Aa hi,daa]
   grind
  grind[Zd,mq]
 simp_all
theorem mapM_some{α β:Type}{f:α->Option β}(g:α->β):∀{l:List α},(∀x∈l,f x=some (g x))->l.mapM f=some (l.map g)
 |[],_=>rfl
 |x::l,h=>by
  rw[List.mapM_cons,h x (by simp),mapM_some g λy hy=>h y (by grind)];rfl
def Rt(s:GScope):List (List Int):=
 (yaa s.Defs.length).map λ(d:Nat)=>Sd ((s.Rules.filter λ(r:GRule)=>r.Def==(d:Int)).map λr=>wD s.Defs.length (Ev xd r.Guard)++wD s.Defs.length (Ev xd r.Value)).flatten
theorem Xt{s:GScope}(hs:ScOk s):Ai s=some (Rt s):=by
 unfold Ai Rt;rw[if_pos ⟨hs.defs,hs.rules,hs.g⟩];refine mapM_some _ λd _=>?_;rw[mapM_some (λr=>wD s.Defs.length (Ev xd r.Guard)++wD s.Defs.length (Ev xd r.Value)) λr hr=>Vp (hs.g r (vac.1 hr).1) _];rfl
theorem Dz{s:GScope}{d:Int}{l:List Int}(h0:0<=d) (h:(Rt s)[d.toNat]?=some l) (x:Int):x∈l↔xC s d x:=by
 unfold Rt at h;rw[List.getElem?_map]at h;by_cases hd:d.toNat<s.Defs.length
 .rw[List.getElem?_range hd]at h;simp only[Option.map_some,Laa]at h;subst h;rw[(Wl _).2.2];simp only[List.mem_flatten,hac,vac,beq_iff_eq,xC,yw,wD]
  grind
 simp_all
theorem tr(s:GScope):(Rt s).length=s.Defs.length:=by simp[Rt]
theorem qN{s:GScope}{a b:Int}(h0:0<=a):ReachL (Rt s) a b↔Way s a b:=by
 constructor
 .intro h;have key:∀{b:Int},ReachL (Rt s) a b->Way s a b/\0<=b:=by
   intro b h
   induction h with
   |one h hb=>exact have:=(Dz h0 h _).1 hb;⟨.one this,this.2.1.1⟩
   |step h hl hc ih=>exact have:=(Dz ih.2 hl _).1 hc;⟨.step ih.1 this,this.2.1.1⟩
  simp_all
 .intro h;have get:∀{d x:Int},xC s d x->∃l,(Rt s)[d.toNat]?=some l/\x∈l:=by
   intro d x hd;have hlt:d.toNat<(Rt s).length:=by rw[tr];have:=hd.1;omega
   exact⟨_,faa hlt,(Dz hd.1.1 (faa hlt) x).2 hd⟩
  induction h with
  |one h=>obtain⟨l,h1,h2⟩:=get h;exact .one h1 h2
  |step h h2 ih=>obtain⟨l,k1,k2⟩:=get h2;exact .step ih k1 k2
theorem yG{l:List Int}(hl:l.length<=1099511627776) (d:Int):ud l d=some (decide (d∈l)):=by
 have h:=rn (l:=l) (p:=λx=>some (decide (d=x))) (λx=>decide (d=x)) (λx _=>rfl) (by omega) (o:=fa (mf l d) 0) (by
  unfold mf;simp)
 have h':ud l d=some (l.any λx=>decide (d=x)):=h
 grind
open Classical in
theorem Yy{s:GScope}(hs:ScOk s) (d:Int):∃l,Fj s d=some l/\l.length<=1048576/\∀x,x∈l↔Way s d x:=by
 unfold Fj;by_cases hd:0<=d/\d<(s.Defs.length:Int)
 .have hn:=hs.defs;refine⟨QD (Rt s) d,?_,?_,?_⟩
  .rw[if_pos (by omega),daa,if_neg (by simp;omega),Xt hs,daa];unfold Vl;rw[if_pos]
   .rfl
   .refine⟨by rw[tr];omega,λl hl=>?_,hd.1,by rw[tr];exact hd.2⟩;obtain⟨i,hi,rfl⟩:=Daa hl;have hm:=λx=>Dz (s:=s) (d:=(i:Int)) (l:=(Rt s)[i]) (by omega) (by rw[Int.toNat_natCast];exact faa hi) x;have hb:∀x∈(Rt s)[i],0<=x/\x<((Rt s).length:Int):=λx hx=>by rw[tr];exact((hm x).1 hx).2.1
    refine⟨?_,hb⟩;have hinc:vH (Rt s)[i]:=by simp only[Rt,List.getElem_map];exact(Wl _).1
    have:=SG hinc hb;rw[tr]at this;omega
  .have h1:=gab (λb=>@decide (ReachL (Rt s) d b) (Classical.propDecidable _)) ((yaa (Rt s).length).map λ(k:Nat)=>(k:Int));unfold QD;simp only[List.length_map,List.length_range,tr]at h1⊢;omega
  .intro x;unfold QD;rw[vac,tr,hac,decide_eq_true_eq,qN hd.1];constructor
   .exact λh=>h.2
   .intro h;refine⟨?_,h⟩;have:0<=x/\x<(s.Defs.length:Int):=by cases h with|one h=>exact h.2.1|step _ h=>exact h.2.1
    exact⟨x.toNat,by simp;omega,by omega⟩
 .refine⟨[],?_,by simp,λx=>?_⟩
  .have:(if¬d<0 then some (decide ((s.Defs.length:Int)<=d))else some true)=some true:=by
    by_cases h:d<0
    .rw[if_neg (by omega)]
    .rw[if_pos h,decide_eq_true (by omega)]
   rw[this];rfl
  .constructor
   .intro h;simp at h
   .intro h;exfalso;apply hd;clear hd
    induction h with
    |one h=>exact h.1
    |step h h2 ih=>exact ih
structure LawOk (l:GLaw):Prop where
 ne:l.Enums.length<=1048576
 nt:l.Tables.length<=1048576
 ns:l.Scopes.length<=1048576
 e:∀x∈l.Enums,x.Name.size<=1048576/\∀m∈x.Members,m.size<=1048576
 t:∀x∈l.Tables,x.Name.size<=1048576
 s:∀x∈l.Scopes,x.Name.size<=1048576/\ScOk x/\x.Inputs.length<=1048576/\(∀f∈x.Inputs,f.Name.size<=1048576)/\(∀f∈x.Defs,f.Name.size<=1048576)/\
  (∀r∈x.Rules,r.Name.size<=1048576/\r.Source.size<=1048576/\(∀n∈r.Guard,wb n)/\∀n∈r.Value,wb n)
theorem JH{α ρ:Type}{l:List α}{q:α->Bool}{k:Nat}(hk:k<=l.length) {g:Nat->ρ}:(ff (λi=>if i<k/\(l[i]?.any q)=true then some (g i)else none) l.length).isSome=(l.take k).any q:=by
 rw[←ym (l:=l.take k) (q:=q) (g:=g)];have h:∀m,k<=m->ff (λi=>if i<k/\(l[i]?.any q)=true then some (g i)else none) m=ff (λi=>if((l.take k)[i]?.any q)=true then some (g i)else none) k:=by
  intro m hm
  cases h1:ff (λi=>if((l.take k)[i]?.any q)=true then some (g i)else none) k with
  |none=>
   grind[Ob]
  |some v=>
   grind[Sa]
 simp_all
theorem Qm{α:Type}{l:List α}{q:α->Bool}{k:Nat}(hl:l.length<=1048576) (hk:k<=l.length) {step:Int->Option (Ex Int Unit Bool)}
 (hstep:∀(i:Nat) (hi:i<l.length),step (i:Int)=if i<k/\q l[i]=true then some (.ret true)else some (.go ((i+1:Nat):Int))) (hend:step (l.length:Int)=some (.brk ())) :
 fa step 0=some (if(l.take k).any q=true then .inr true else .inl ()):=by
 have h1:=Lb (step:=step) (x0:=0) (λi=>(i:Int)) (λi=>if i<k/\(l[i]?.any q)=true then some true else none) l.length () (λi hi _=>by
  rw[hstep i hi,faa hi,dab];by_cases h:i<k/\q l[i]=true
  .rw[if_pos h,if_pos h];rfl
  .rw[if_neg h,if_neg h];rfl) (λ_=>hend)
 rw[h1,←JH (q:=q) (g:=λ_=>true) hk]
 cases hf:ff (λi=>if i<k/\(l[i]?.any q)=true then some true else none) l.length with
 |none=>rfl
 |some v=>
  obtain⟨i,-,h2,-⟩:=Sa.1 hf;split at h2
  .injection h2 with h2;subst h2;rfl
  simp_all
theorem ny{n:Nat}(hn:n<=1048576) {step:Int->Option (Ex Int Unit Bool)}(hstep:∀i:Nat,i<n->step (i:Int)=some (.go ((i+1:Nat):Int))) (hend:step (n:Int)=some (.brk ())):fa step 0=some (.inl ()):=
 Xc (λi=>(i:Int)) n () (λi hi=>hstep i hi) hend
theorem K0{l:GLaw}(h:LawOk l) {i:Nat}(hi:i<=l.Enums.length) (nm:ByteArray):Xb l 1 (i:Int) nm=some ((l.Enums.take i).any λx=>decide (x.Name=nm)):=by
 have hne:=h.ne;have hnt:=h.nt;have hns:=h.ns;unfold Xb;have h1:fa (Tb l 1 (i:Int) nm) 0=some (if(l.Enums.take i).any (λx=>decide (x.Name=nm))=true then .inr true else .inl ()):=Qm hne hi (λk hk=>by
  unfold Tb;rw[if_pos (by omega),Aa hk,ya (by omega)]
  grind) (by grind[Tb])
 have h2:fa (bb l 1 (i:Int) nm) 0=some (.inl ()):=ny hnt (λk hk=>by
  unfold bb;rw[if_pos (by omega),ya (by omega)];simp) (by grind[bb])
 have h3:fa (lb l 1 (i:Int) nm) 0=some (.inl ()):=ny hns (λk hk=>by
  unfold lb;rw[if_pos (by omega),ya (by omega)];simp) (by grind[lb])
 grind
theorem HH{l:GLaw}(h:LawOk l) {t i:Int}(ht:1<t) (nm:ByteArray):fa (Tb l t i nm) 0=some (if l.Enums.any (λx=>decide (x.Name=nm))=true then .inr true else .inl ()):=by
 have hne:=h.ne;have:=Qm (l:=l.Enums) (q:=λx=>decide (x.Name=nm)) (k:=l.Enums.length) (step:=Tb l t i nm) hne (saa _) (λk hk=>by
  unfold Tb;rw[if_pos (by omega),Aa hk,ya (by omega),if_neg (by omega)]
  simp_all) (by grind[Tb])
 simp_all
theorem L0{l:GLaw}(h:LawOk l) {i:Nat}(hi:i<=l.Tables.length) (nm:ByteArray):Xb l 2 (i:Int) nm=some ((l.Enums.any λx=>decide (x.Name=nm)) || (l.Tables.take i).any λx=>decide (x.Name=nm)):=by
 have hne:=h.ne;have hnt:=h.nt;have hns:=h.ns;unfold Xb;have h2:fa (bb l 2 (i:Int) nm) 0=some (if(l.Tables.take i).any (λx=>decide (x.Name=nm))=true then .inr true else .inl ()):=Qm hnt hi (λk hk=>by
  unfold bb;rw[if_pos (by omega),Aa hk,ya (by omega)]
  grind) (by grind[bb])
 have h3:fa (lb l 2 (i:Int) nm) 0=some (.inl ()):=ny hns (λk hk=>by
  unfold lb;rw[if_pos (by omega),ya (by omega)];simp) (by grind[lb])
 grind[HH]
theorem M0{l:GLaw}(h:LawOk l) {i:Nat}(hi:i<=l.Scopes.length) (nm:ByteArray):Xb l 3 (i:Int) nm=some ((l.Enums.any λx=>decide (x.Name=nm)) || ((l.Tables.any λx=>decide (x.Name=nm)) || (l.Scopes.take i).any λx=>decide (x.Name=nm))):=by
 have hne:=h.ne;have hnt:=h.nt;have hns:=h.ns;unfold Xb;have h2:fa (bb l 3 (i:Int) nm) 0=some (if l.Tables.any (λx=>decide (x.Name=nm))=true then .inr true else .inl ()):=by
  have:=Qm (l:=l.Tables) (q:=λx=>decide (x.Name=nm)) (k:=l.Tables.length) (step:=bb l 3 (i:Int) nm) hnt (saa _) (λk hk=>by
   unfold bb;rw[if_pos (by omega),Aa hk,ya (by omega)]
   simp_all) (by grind[bb])
  simp_all
 have h3:fa (lb l 3 (i:Int) nm) 0=some (if(l.Scopes.take i).any (λx=>decide (x.Name=nm))=true then .inr true else .inl ()):=Qm hns hi (λk hk=>by
  unfold lb;rw[if_pos (by omega),Aa hk,ya (by omega)]
  grind) (by grind[lb])
 rw[HH h (by omega),h2,h3]
 grind
theorem xA{l:List GEnum}(hl:l.length<=1048576) (nm:ByteArray):jj l nm=some (l.any λx=>decide (x.Name=nm)):=by
 have h:=rn (l:=l) (p:=λx=>Oe x nm) (λx=>decide (x.Name=nm)) (λx _=>rfl) (by omega) (o:=fa (Gc l (λx=>Oe x nm)) 0) rfl;have h':ab l (λx=>Oe x nm)=some (l.any λx=>decide (x.Name=nm)):=h
 grind[jj]
theorem uD{l:List GTable}(hl:l.length<=1048576) (nm:ByteArray):qj l nm=some (l.any λx=>decide (x.Name=nm)):=by
 have h:=rn (l:=l) (p:=λx=>Ud x nm) (λx=>decide (x.Name=nm)) (λx _=>rfl) (by omega) (o:=fa (vc l (λx=>Ud x nm)) 0) rfl;have h':Ua l (λx=>Ud x nm)=some (l.any λx=>decide (x.Name=nm)):=h
 grind[qj]
theorem cK{l:List GScope}(hl:l.length<=1048576) (y:GScope):Ta l (λx=>Oc x y)=some (l.any λx=>decide (x.Name=y.Name)):=
 rn (l:=l) (p:=λx=>Oc x y) (λx=>decide (x.Name=y.Name)) (λx _=>rfl) (by omega) (o:=fa (tc l (λx=>Oc x y)) 0) rfl
theorem tD{l:List GField}(hl:l.length<=1048576) (y:GField):Ha l (λx=>nc x y)=some (l.any λx=>decide (x.Name=y.Name)):=
 rn (l:=l) (p:=λx=>nc x y) (λx=>decide (x.Name=y.Name)) (λx _=>rfl) (by omega) (o:=fa (qc l (λx=>nc x y)) 0) rfl
theorem PM{l:List GRule}(hl:l.length<=1048576) (y:GRule):zb l (λx=>ue x y)=some (l.any λx=>decide (x.Name=y.Name)):=
 rn (l:=l) (p:=λx=>ue x y) (λx=>decide (x.Name=y.Name)) (λx _=>rfl) (by omega) (o:=fa (Hc l (λx=>ue x y)) 0) rfl
theorem zP{l:List ByteArray}(hl:l.length<=1048576) (y:ByteArray):Qc l y=some (l.any λx=>decide (x=y)):=by
 have h:=rn (l:=l) (p:=λx=>some (decide (y=x))) (λx=>decide (x=y)) (λx _=>by grind) (by omega) (o:=fa (Rc l y) 0) (by
  unfold Rc;simp)
 exact h
noncomputable def VB(x:GEnum) (k:Nat):Option (Int×Int):=
 match x.Members[k]? with
 |some m=>if Gi m=false then some (2,100+(k:Int))else if((x.Members.take k).any λy=>decide (y=m))=true then some (7,100+(k:Int))else none
 |none=>none
noncomputable def Ke(l:GLaw) (i:Nat) (x:GEnum):Int×Int:=
 if Gi x.Name=false then(2,0)else if((l.Enums.take i).any λy=>decide (y.Name=x.Name))=true then(7,0)
 else if x.Members.length=0 then(5,0)else if 16<x.Members.length then(4,116)else(ff (VB x) x.Members.length).getD (0,0)
theorem OT{x:GEnum}{k:Nat}{v:Int×Int}(h:VB x k=some v):v.1≠0:=by
 grind[VB]
theorem RB{l:GLaw}(h:LawOk l) {i:Nat}(hi:i<l.Enums.length):Fm l (i:Int) l.Enums[i]=some (Ke l i l.Enums[i]):=by
 obtain⟨g1,g2⟩:=h.e _ (laa hi);have hne:=h.ne;generalize l.Enums[i]=x at g1 g2⊢;unfold Fm Ke;rw[Bn (by omega),daa];cases Gi x.Name
 .rfl
 simp only[maa,waa,if_false];rw[xu (by omega),daa,xA (by grind),daa];cases (l.Enums.take i).any λy=>decide (y.Name=x.Name)
 .simp only[maa,waa,if_false];by_cases h0:x.Members.length=0
  .simp_all
  rw[if_neg (by omega),if_neg h0];by_cases h16:16<x.Members.length
  .grind
  rw[if_neg (by omega),if_neg h16];have hl:fa (Ki x) 0=some (Mb () (ff (VB x) x.Members.length)):=
   Lb (λk=>(k:Int)) _ _ _ (λk hk _=>by
    have hm:=g2 _ (laa hk);unfold Ki VB;rw[if_pos (by omega),Aa hk,daa,Bn (by omega),daa,faa hk,wid (n:=100+(k:Int)) (by omega) (by omega),ya (by omega),xu (by omega),daa,zP (by grind),daa];simp only;cases Gi x.Members[k]
    .rfl
    .simp only[maa,waa,if_false];cases (x.Members.take k).any λy=>decide (y=x.Members[k])<;>rfl) (λ_=>by grind[Ki])
  rw[hl];cases ff (VB x) x.Members.length<;>rfl
 .rfl
theorem Kz{l:GLaw}(h:LawOk l) {i:Nat}(hi:i<l.Enums.length):Rj l (i:Int)=some (if(Ke l i l.Enums[i]).1=0 then⟨0,0,0,0⟩else⟨(Ke l i l.Enums[i]).1,1,i,(Ke l i l.Enums[i]).2⟩):=by
 obtain⟨g1,g2⟩:=h.e _ (laa hi);have hne:=h.ne;unfold Rj Ke;rw[Aa hi,daa];generalize l.Enums[i]=x at g1 g2⊢;rw[ml (by omega),daa,K0 h (by omega),daa];cases Gi x.Name
 .rfl
 simp only[maa,waa,if_false];cases (l.Enums.take i).any λy=>decide (y.Name=x.Name)
 .simp only[maa,waa,if_false];by_cases h0:x.Members.length=0
  .simp_all
  rw[if_neg (by omega),if_neg h0];by_cases h16:16<x.Members.length
  .grind
  rw[if_neg (by omega),if_neg h16];have hl:fa (Dg (i:Int) x) (0,0)=some (Mb () ((ff (VB x) x.Members.length).map λv=>(⟨v.1,1,(i:Int),v.2⟩:GLawError))):=by
   have hff:(ff (VB x) x.Members.length).map (λv=>(⟨v.1,1,(i:Int),v.2⟩:GLawError))=ff (λk=>(VB x k).map λv=>(⟨v.1,1,(i:Int),v.2⟩:GLawError)) x.Members.length:=by
    cases h1:ff (VB x) x.Members.length with
    |none=>grind[Ob]
    |some v=>grind[Sa]
   rw[hff];refine Lb (λk=>((if k=0 then 0 else 100+((k-1:Nat):Int)),(k:Int))) _ _ _ (λk hk _=>?_) (λ_=>by grind[Dg]) (by rfl);have hm:=g2 _ (laa hk);unfold Dg VB;simp only;rw[if_pos (by omega),Aa hk,daa,ml (by omega),daa,faa hk,wid (n:=100+(k:Int)) (by omega) (by omega),ya (by omega)];have hl2:fa (Cg (i:Int) x (k:Int) x.Members[k]) 0=some (Mb () (ff (λj=>if((x.Members.take k)[j]?.any λy=>decide (y=x.Members[k]))=true then some (Ex.ret (⟨7,1,(i:Int),100+(k:Int)⟩:GLawError))else none) (x.Members.take k).length)):=
    Lb (λj=>(j:Int)) _ _ _ (λj hj _=>by
     have hjk:j<k:=by grind
     unfold Cg;rw[if_pos (by omega),Aa (by omega),daa,faa hj,wid (n:=100+(k:Int)) (by omega) (by omega),ya (by omega)];simp only[dab,mac,decide_eq_true_eq];by_cases he:x.Members[j]=x.Members[k]
     .rw[if_pos he,if_pos he];rfl
     .rw[if_neg he,if_neg he];rfl) (λ_=>by
      grind[Cg])
   dsimp only;cases Gi x.Members[k]
   .rfl
   simp only[maa,waa,if_false];rw[hl2,daa,←ym (l:=x.Members.take k) (q:=λy=>decide (y=x.Members[k])) (g:=λ_=>(Ex.ret (⟨7,1,(i:Int),100+(k:Int)⟩:GLawError):Ex (Int×Int) Unit GLawError))]
   cases h1:ff (λj=>if((x.Members.take k)[j]?.any λy=>decide (y=x.Members[k]))=true then some (Ex.ret (⟨7,1,(i:Int),100+(k:Int)⟩:GLawError):Ex (Int×Int) Unit GLawError)else none) (x.Members.take k).length with
   |none=>simp[Mb,pD]
   |some v=>
    obtain⟨j,j1,j2,-⟩:=Sa.1 h1;split at j2
    .injection j2 with j2;subst j2;rfl
    simp_all
  rw[hl]
  cases h1:ff (VB x) x.Members.length with
  |none=>rfl
  |some v=>
   grind[Mb,Sa,OT]
 .rfl
noncomputable def Pm(l:GLaw) (i:Nat) (x:GTable):Int×Int:=
 if Gi x.Name=false then(2,0)
 else if((l.Enums.any λy=>decide (y.Name=x.Name)) || (l.Tables.take i).any λy=>decide (y.Name=x.Name))=true then(7,0)
 else if(Ho x l.Enums).2=0 then(0,0)else((Ho x l.Enums).2,if(Ho x l.Enums).1 = -1 then 0 else 100+(Ho x l.Enums).1)
theorem tE(t:GTable) (e:List GEnum):-1<=(Ho t e).1/\(Ho t e).1<=64:=by
 unfold Ho;split
 .simp
 .split
  .simp
  .cases h:ff (gH t e) t.Rows.length with
   |none=>simp
   |some v=>
    grind[gH,Sa]
theorem SM{l:GLaw}(h:LawOk l):fa (ug l) 0=some (Mb () (ff (λi=>match l.Tables[i]? with|some x=>if(Pm l i x).1=0 then none else some (⟨(Pm l i x).1,2,(i:Int),(Pm l i x).2⟩:GLawError)|none=>none) l.Tables.length)):=by
 have hnt:=h.nt;have hne:=h.ne;refine Lb (λk=>(k:Int)) _ _ _ (λi hi _=>?_) (λ_=>by grind[ug]);have hx:=h.t _ (laa hi);unfold ug Pm;rw[if_pos (by omega),Aa hi,daa,faa hi,ya (by omega)];simp only;generalize l.Tables[i]=x at hx⊢;have hr:=tE x l.Enums;rw[TA,daa,Bn (by omega),daa,xA hne,daa,xu (by omega),daa,uD (by grind),wid (n:=100+(Ho x l.Enums).1) (by omega) (by omega)]
 grind[pD]
theorem Cy{l:GLaw}(h:LawOk l) {i:Nat}(hi:i<l.Tables.length):bj l (i:Int)=some (if(Pm l i l.Tables[i]).1=0 then⟨0,0,0,0⟩else⟨(Pm l i l.Tables[i]).1,2,i,(Pm l i l.Tables[i]).2⟩):=by
 have hnt:=h.nt;have hne:=h.ne;have hx:=h.t _ (laa hi);unfold bj Pm;rw[Aa hi,daa];generalize l.Tables[i]=x at hx⊢;have hr:=tE x l.Enums;rw[ml (by omega),daa,L0 h (by omega),daa,JA,daa,wid (n:=100+(Ho x l.Enums).1) (by omega) (by omega)]
 grind
noncomputable def Er(l:GLaw) (f:GField) (a b:List GField):Int:=
 if Gi f.Name=false then 2 else if((a.any λy=>decide (y.Name=f.Name)) || b.any λy=>decide (y.Name=f.Name))=true then 7 else if ja f.Type_ l.Enums=false then 8 else 0
theorem iu{l:GLaw}{f:GField}{a b:List GField}(hf:f.Name.size<=1048576) (ha:a.length<=1048576) (hb:b.length<=1048576):sg l f a b=some (Er l f a b):=by
 unfold sg Er;rw[Bn (by omega),daa,tD ha,daa,tD hb,Ia,daa]
 grind
theorem np{l:List GField}{k:Nat}(hl:l.length<=1048576) (hk:k<=l.length) (nm:ByteArray):Eg l (k:Int) nm=some ((l.take k).any λy=>decide (y.Name=nm)):=by
 unfold Eg;have h1:fa (Ph l (k:Int) nm) 0=some (Mb () (ff (λi=>if((l.take k)[i]?.any λy=>decide (y.Name=nm))=true then some true else none) (l.take k).length)):=
  Lb (λi=>(i:Int)) _ _ _ (λi hi _=>by
   have hik:i<k:=by simp_all
   unfold Ph;rw[if_pos (by omega),daa,decide_eq_true (by omega),if_pos rfl,Aa (by omega),daa,faa hi,ya (by omega)];simp only[dab,mac,decide_eq_true_eq];by_cases he:l[i].Name=nm
   .rw[if_pos he,if_pos he];rfl
   .rw[if_neg he,if_neg he];rfl) (λ_=>by
    simp_all[Ph])
 rw[h1,←ym (q:=λ(y:GField)=>decide (y.Name=nm)) (g:=λ_=>true),daa]
 cases h2:ff (λi=>if((l.take k)[i]?.any λy=>decide (y.Name=nm))=true then some true else none) (l.take k).length with
 |none=>rfl
 |some v=>
  obtain⟨j,j1,j2,-⟩:=Sa.1 h2;split at j2
  .injection j2 with j2;subst j2;rfl
  simp_all
theorem OB{l:List GField}(hl:l.length<=1048576) {step:List GType×Int->Option (Ex (List GType×Int) (List GType) Unit)}
 (hstep:∀(a:List GType) (i:Nat) (hi:i<l.length),step (a,(i:Int))=((app 16 a [l[i].Type_]).bind λx=>some (.go (x,da .i64 ((i:Int)+1)))))
 (hend:∀a,step (a,(l.length:Int))=some (.brk a)):fa step (([]:List GType),0)=some (.inl (l.map (·.Type_))):=by
 refine Xc (λi=>((l.take i).map (·.Type_),(i:Int))) l.length _ (λi hi=>?_) (by simp_all) (by simp)
 grind[Hf,ya,Raa]
theorem cp{l:List GField}(hl:l.length<=1048576):wg l=some (l.map (·.Type_)):=by
 unfold wg;rw[OB hl (step:=Bh l) (λa i hi=>by simp_all[Bh,Aa]) (λa=>by grind[Bh])];rfl
def Ds(l:GLaw) (s:GScope):GSignature:=
 if h:0<=s.MemberScope/\s.MemberScope<(l.Scopes.length:Int)then⟨l.Enums,l.Tables,s.Inputs.map (·.Type_),s.Defs.map (·.Type_),(l.Scopes[s.MemberScope.toNat]'(by omega)).Defs.map (·.Type_),true⟩
 else⟨l.Enums,l.Tables,s.Inputs.map (·.Type_),s.Defs.map (·.Type_),[],false⟩
theorem qk{l:GLaw}(h:LawOk l) {i:Nat}(hi:i<l.Scopes.length):Lc l (i:Int)=some (Ds l l.Scopes[i]):=by
 obtain⟨g1,g2,g3,-⟩:=h.s _ (laa hi);have gd:=g2.defs;unfold Lc Ds;rw[Aa hi,daa];generalize l.Scopes[i]=x at gd g3⊢;rw[cp g3,daa,cp gd,daa];by_cases hm:0<=x.MemberScope/\x.MemberScope<(l.Scopes.length:Int)
 .have hd:=(h.s _ (laa (l:=l.Scopes) (n:=x.MemberScope.toNat) (by omega))).2.1.defs
  simp_all[Ij,cp]
 grind
theorem ot{l:GLaw}(h:LawOk l) {i:Nat}(hi:i<l.Scopes.length):dh l (i:Int)=some (Ds l l.Scopes[i]):=by
 rw[←qk h hi];unfold dh Lc;rw[if_pos (by omega),daa,if_neg (by simp_all)];rfl
def Yz(s:ByteArray) (i:Nat):Bool:=if h:i<s.size then decide (32<=(s[i].toNat:Int))&&decide ((s[i].toNat:Int)<=126)&&!((s[i].toNat:Int)==34)else true
def FK(s:ByteArray):Bool:=decide (s.size<=64)&&(ff (λi=>if Yz s i=true then none else some false) s.size).isNone
theorem Lz{s:ByteArray}(hs:s.size<=1048576):Sj s=some (FK s):=by
 unfold Sj FK;have h1:fa (Fg s) 0=some (Mb () (ff (λi=>if Yz s i=true then none else some false) s.size)):=
  Lb (λi=>(i:Int)) _ _ _ (λi hi _=>by
   unfold Fg Yz;rw[if_pos (by omega),aG hi,daa,ya (by omega),dif_pos hi]
   grind[pD]) (λ_=>by grind[Fg])
 rw[h1]
 cases h2:ff (λi=>if Yz s i=true then none else some false) s.size with
 |none=>
  grind[decide,Mb]
 |some v=>
  grind[Mb,Sa]
theorem VM{s:ByteArray}{c:UInt8}:s.data.toList.contains c=true↔∃i,∃h:i<s.size,s[i]=c:=by
 rw[List.contains_iff_mem];constructor
 .intro h;obtain⟨i,hi,he⟩:=Daa h;exact⟨i,by simpa using hi,by rw[←he];rfl⟩
 .rintro⟨i,hi,rfl⟩;exact laa (l:=s.data.toList) (n:=i) (by simp_all)
theorem Az{s:ByteArray}(hs:s.size<=1048576):ah s=some (FK s):=by
 unfold ah FK strings_Contains;rw[if_pos (show(iaa #[34]).size=1 from rfl)];by_cases h64:64<s.size
 .grind
 rw[if_pos (by omega),decide_eq_true (p:=s.size<=64) (by omega)];have h1:fa (xg s) 0=some (Mb () (ff (λi=>if(if h:i<s.size then decide (32<=(s[i].toNat:Int))&&decide ((s[i].toNat:Int)<=126)else true)=true then none else some false) s.size)):=
  Lb (λi=>(i:Int)) _ _ _ (λi hi _=>by
   unfold xg;rw[if_pos (by omega),aG hi,daa,ya (by omega),dif_pos hi]
   grind[pD]) (λ_=>by grind[xg])
 rw[h1];simp only[daa,Zaa];have hc:=VM (s:=s) (c:=34);change (s.data.toList.contains ((iaa #[34]).data.toList.headD 0))=true↔_ at hc;have h34:∀i (h:i<s.size),s[i]=34↔(s[i].toNat:Int)=34:=λi h=>by
  constructor
  .simp_all
  .intro he;apply UInt8.toNat_inj.1
   grind
 cases hq:s.data.toList.contains ((iaa #[34]).data.toList.headD 0)
 .rw[hq]at hc;have hno:∀i (h:i<s.size),(s[i].toNat:Int)≠34:=λi h he=>by
   simp_all
  rw[if_neg (by simp)];have hff:ff (λi=>if(if h:i<s.size then decide (32<=(s[i].toNat:Int))&&decide ((s[i].toNat:Int)<=126)else true)=true then none else some false) s.size=ff (λi=>if Yz s i=true then none else some false) s.size:=by
   simp_all[Yz]
  rw[hff]
  cases h2:ff (λi=>if Yz s i=true then none else some false) s.size with
  |none=>rfl
  |some v=>
   obtain⟨j,j1,j2,-⟩:=Sa.1 h2;split at j2
   .grind
   .injection j2 with j2;subst j2;rfl
 .obtain⟨i,hi,he⟩:=hc.1 hq;rw[if_pos rfl]
  cases h2:ff (λi=>if Yz s i=true then none else some false) s.size with
  |some v=>rfl
  |none=>
   simp_all[Yz,Ob]
noncomputable def xE(e:List GNode) (s:GSignature) (t:GType):Int:=
 if¬(Gn e s).2.2=0 then(Gn e s).2.2 else if¬((Gn e s).1.Kind=t.Kind/\(Gn e s).1.Enum=t.Enum)then 8 else 0
theorem sv{e:List GNode}(hN:∀n∈e,wb n) (s:GSignature) (t:GType):fi e s t=some (xE e s t):=by
 grind[fi,xE,Cx]
theorem qt{e:List GNode}(hN:∀n∈e,wb n) (s:GSignature) (t:GType):fh e s t=some (xE e s t):=by
 grind[fh,xE,nw]
def SA(x:GScope) (k:Nat) (r:GRule):Nat:=((x.Rules.take k).filter λy=>decide (y.Def=r.Def)).length
theorem FL(x:GScope) (k:Nat) (r:GRule):SA x k r<=k:=by
 grind[SA]
theorem ZF{x:GScope}{k:Nat}{r:GRule}(hk:k<x.Rules.length):SA x (k+1) r=if x.Rules[k].Def=r.Def then SA x k r+1 else SA x k r:=by
 unfold SA;rw[Raa,faa hk,rab,List.length_append]
 grind
def LD(x:GScope) (k:Nat) (r:GRule):Bool:=
 if r.Parent = -1 then false else if r.Parent<0 then true else if(k:Int)<=r.Parent then true else match x.Rules[r.Parent.toNat]? with|some q=>q.Def !=r.Def|none=>true
noncomputable def DB(x:GScope) (s:GSignature) (k:Nat) (r:GRule):Int:=
 if Gi r.Name=false then 2
 else if((x.Rules.take k).any λy=>decide (y.Name=r.Name))=true then 7
 else if r.Def<0\/(x.Defs.length:Int)<=r.Def then 6
 else if LD x k r=true then 9
 else if r.Priority<0\/9<r.Priority\/r.Valid.From<0\/r.Valid.To<=r.Valid.From\/109573<r.Valid.To then 3
 else if 8<=SA x k r then 4
 else if FK r.Source=false then 2
 else if 0<r.Guard.length/\xE r.Guard s ⟨1,0⟩≠0 then xE r.Guard s ⟨1,0⟩
 else xE r.Value s (match x.Defs[r.Def.toNat]? with|some d=>d.Type_|none=>⟨0,0⟩)
structure RuleOk (r:GRule):Prop where
 nm:r.Name.size<=1048576
 src:r.Source.size<=1048576
 g:∀n∈r.Guard,wb n
 v:∀n∈r.Value,wb n
theorem CW{x:GScope}{k:Nat}{r:GRule}(hk:k<x.Rules.length) {o:Option Bool}(ho:o=(if¬r.Parent = -1 then if¬r.Parent<0 then if¬(k:Int)<=r.Parent then(idx x.Rules r.Parent).bind λy=>some (y.Def !=r.Def)else some true else some true else some false)):o=some (LD x k r):=by
 rw[ho];unfold LD;by_cases h1:r.Parent = -1
 .grind
 by_cases h2:r.Parent<0
 .simp_all
 by_cases h3:(k:Int)<=r.Parent
 .simp_all
 .rw[if_pos h1,if_pos h2,if_pos h3,if_neg h1,if_neg h2,if_neg h3,Ij (by omega) (by omega),daa,faa]
theorem SB{x:GScope}(hx:ScOk x) {k:Nat}(hk:k<x.Rules.length) (hr:RuleOk x.Rules[k]) (s:GSignature):ik x (k:Int) s=some (DB x s k x.Rules[k]):=by
 have hrl:=hx.rules;have hdl:=hx.defs;unfold ik DB;rw[Aa hk,daa,xu (by omega),daa];generalize hrr:x.Rules[k]=r at hr⊢;have hl:fa (Li r (x.Rules.take k)) (0,0)=some (.inl ((SA x k r:Nat):Int)):=by
  refine Xc (λi=>(((SA x i r:Nat):Int),(i:Int))) k _ (λi hi=>?_) ?_ rfl
  .have:=FL x i r;unfold Li;simp only;rw[if_pos (by grind),Aa (by grind),daa,ya (by omega),ya (by omega),mac,ZF (by omega)]
   grind
  grind[Li]
 rw[hl,daa];simp only;rw[Bn (by have:=hr.nm;omega),daa,daa,PM (by grind),daa];cases Gi r.Name
 .rfl
 simp only[waa,if_false];cases (x.Rules.take k).any λy=>decide (y.Name=r.Name)
 .simp only[maa,if_false];by_cases hd:r.Def<0\/(x.Defs.length:Int)<=r.Def
  .grind
  .rw[if_neg hd,if_pos (by omega),daa,if_neg (by simp_all)];rw[CW hk rfl,daa];cases LD x k r
   .simp only[maa,if_false];by_cases hp:r.Priority<0\/9<r.Priority
    .grind
    .rw[if_pos (show¬r.Priority<0 by omega),daa,if_neg (by simp_all)];by_cases hv:r.Valid.From<0\/r.Valid.To<=r.Valid.From\/109573<r.Valid.To
     .grind
     .rw[if_pos (show¬r.Valid.From<0 by omega),if_pos (show¬r.Valid.To<=r.Valid.From by omega),daa,if_neg (by simp_all),if_neg (show¬(r.Priority<0\/9<r.Priority\/r.Valid.From<0\/r.Valid.To<=r.Valid.From\/109573<r.Valid.To) by omega)];by_cases h8:8<=SA x k r
      .grind
      rw[if_neg (by omega),if_neg h8,Az hr.src,daa];cases FK r.Source
      .rfl
      simp only[waa,if_false];have hi:idx x.Defs r.Def=some (x.Defs[r.Def.toNat]'(by omega)):=Ij (by omega) (by omega);have hg2:x.Defs[r.Def.toNat]?=some (x.Defs[r.Def.toNat]'(by omega)):=faa _;simp only[hi,hg2,sv hr.g,sv hr.v,daa]
      grind
   .rfl
 .rfl
theorem tN{v:GDateRange}:GN v=false\/v.From=v.To↔v.From<0\/v.To<=v.From\/109573<v.To:=by
 grind[GN]
theorem iH{l:GLaw}(h:LawOk l) {i:Nat}(hi:i<l.Scopes.length) {r:GRule}(hr:r∈l.Scopes[i].Rules):RuleOk r:=by
 obtain⟨-,-,-,-,-,g⟩:=h.s _ (laa hi);obtain⟨a,b,c,d⟩:=g r hr;exact⟨a,b,c,d⟩
theorem Mz{l:GLaw}(h:LawOk l) {i:Nat}(hi:i<l.Scopes.length) {k:Nat}(hk:k<l.Scopes[i].Rules.length):Tj l (i:Int) (k:Int)=some (DB l.Scopes[i] (Ds l l.Scopes[i]) k l.Scopes[i].Rules[k]):=by
 have hr:=iH h hi (laa hk);have hx:=(h.s _ (laa hi)).2.1;have hS:=ot h hi;unfold Tj;rw[Aa hi,daa];generalize l.Scopes[i]=x at hk hr hx hS⊢;have hrl:=hx.rules;have hdl:=hx.defs;rw[Aa hk,daa];unfold DB;generalize hrr:x.Rules[k]=r at hr⊢;rw[ml (by have:=hr.nm;omega),daa];cases Gi r.Name
 .rfl
 simp only[waa,if_false];have hl:fa (Gg (k:Int) x r) (0,0)=some (Mb ((SA x k r:Nat):Int) (ff (λi=>if((x.Rules.take k)[i]?.any λy=>decide (y.Name=r.Name))=true then some 7 else none) (x.Rules.take k).length)):=by
  refine Lb (λi=>(((SA x i r:Nat):Int),(i:Int))) _ _ _ (λj hj _=>?_) (λ_=>?_) rfl
  .have hjk:j<k:=by grind
   have:=FL x j r;unfold Gg;simp only;rw[if_pos (by omega),Aa (by omega),daa,ya (by omega),ya (by omega),faa hj,ZF (by omega)];simp only[dab,mac,decide_eq_true_eq];by_cases hn:x.Rules[j].Name=r.Name
   .rw[if_pos hn,if_pos hn];rfl
   .rw[if_neg hn,if_neg hn];by_cases hd:x.Rules[j].Def=r.Def
    .rw[if_pos hd,if_pos hd];rfl
    .rw[if_neg hd,if_neg hd];rfl
  grind[Gg]
 rw[hl,daa,←ym (q:=λ(y:GRule)=>decide (y.Name=r.Name)) (g:=λ_=>(7:Int))]
 cases h2:ff (λi=>if((x.Rules.take k)[i]?.any λy=>decide (y.Name=r.Name))=true then some (7:Int)else none) (x.Rules.take k).length with
 |some v=>
  obtain⟨j,j1,j2,-⟩:=Sa.1 h2;split at j2
  .injection j2 with j2;subst j2;rfl
  simp_all
 |none=>
  simp only[Mb,Option.isSome_none,maa,if_false];by_cases hd:r.Def<0\/(x.Defs.length:Int)<=r.Def
  .grind
  .rw[if_neg hd,if_pos (by omega),daa,if_neg (by simp_all)];rw[CW hk rfl,daa];cases LD x k r
   .simp only[maa,if_false,Hp,daa];have hb:=tN (v:=r.Valid);by_cases hp:r.Priority<0\/9<r.Priority
    .grind
    .rw[if_pos (show¬r.Priority<0 by omega),if_pos (show¬9<r.Priority by omega)];by_cases hv:r.Valid.From<0\/r.Valid.To<=r.Valid.From\/109573<r.Valid.To
     .grind
     .have h1:GN r.Valid=true:=by
       simp_all
      have h2:¬r.Valid.From=r.Valid.To:=λhq=>hv (hb.1 (.inr hq));rw[if_pos h1,daa,if_neg (by simp_all),if_neg (show¬(r.Priority<0\/9<r.Priority\/r.Valid.From<0\/r.Valid.To<=r.Valid.From\/109573<r.Valid.To) by omega)];by_cases h8:8<=SA x k r
      .grind
      rw[if_neg (by omega),if_neg h8,Lz hr.src,daa];cases FK r.Source
      .rfl
      simp only[waa,if_false];have hi':idx x.Defs r.Def=some (x.Defs[r.Def.toNat]'(by omega)):=Ij (by omega) (by omega);have hg2:x.Defs[r.Def.toNat]?=some (x.Defs[r.Def.toNat]'(by omega)):=faa _;simp only[hS,hi',hg2,qt hr.g,qt hr.v,daa]
      grind
   .rfl
noncomputable def QM(l:GLaw) (x:GScope) (k:Nat):Option (Int×Int):=
 match x.Inputs[k]? with
 |some f=>if Er l f (x.Inputs.take k) []=0 then none else some (Er l f (x.Inputs.take k) [],100+(k:Int))
 |none=>none
noncomputable def LC(l:GLaw) (x:GScope) (k:Nat):Option (Int×Int):=
 match x.Defs[k]? with
 |some f=>if Er l f x.Inputs (x.Defs.take k)=0 then none else some (Er l f x.Inputs (x.Defs.take k),200+(k:Int))
 |none=>none
noncomputable def fF(l:GLaw) (x:GScope) (k:Nat):Option (Int×Int):=
 match x.Rules[k]? with
 |some r=>if DB x (Ds l x) k r=0 then none else some (DB x (Ds l x) k r,300+(k:Int))
 |none=>none
open Classical in
noncomputable def LB(x:GScope) (k:Nat):Option (Int×Int):=if Way x (k:Int) (k:Int)then some (9,200+(k:Int))else none
def my(l:GLaw) (i:Nat) (x:GScope):Bool:=
 if x.MemberScope = -1 then false else if x.MemberScope<0 then true else if(i:Int)<=x.MemberScope then true else match l.Scopes[x.MemberScope.toNat]? with|some q=>q.MemberScope !=-1|none=>true
noncomputable def Wg(l:GLaw) (i:Nat) (x:GScope):Int×Int:=
 if Gi x.Name=false then(2,0)
 else if((l.Enums.any λy=>decide (y.Name=x.Name)) || ((l.Tables.any λy=>decide (y.Name=x.Name)) || (l.Scopes.take i).any λy=>decide (y.Name=x.Name)))=true then(7,0)
 else if my l i x=true then(6,0)
 else if 12<x.Inputs.length then(4,112)
 else if 12<x.Defs.length then(4,212)
 else match ff (QM l x) x.Inputs.length with
  |some v=>v
  |none=>match ff (LC l x) x.Defs.length with
   |some v=>v
   |none=>match ff (fF l x) x.Rules.length with
    |some v=>v
    |none=>(ff (LB x) x.Defs.length).getD (0,0)
theorem OP{l:GLaw}{i:Nat}{x:GScope}(hi:i<l.Scopes.length) {o:Option Bool}(ho:o=(if¬x.MemberScope = -1 then if¬x.MemberScope<0 then if¬(i:Int)<=x.MemberScope then(idx l.Scopes x.MemberScope).bind λy=>some (y.MemberScope !=-1)else some true else some true else some false)):o=some (my l i x):=by
 rw[ho];unfold my;by_cases h1:x.MemberScope = -1
 .grind
 by_cases h2:x.MemberScope<0
 .simp_all
 by_cases h3:(i:Int)<=x.MemberScope
 .simp_all
 .rw[if_pos h1,if_pos h2,if_pos h3,if_neg h1,if_neg h2,if_neg h3,Ij (by omega) (by omega),daa,faa]
theorem UM{l:GLaw}{i:Nat}{x:GScope}(hi:i<l.Scopes.length) {o:Option Bool}(ho:o=(if¬x.MemberScope = -1 then if¬x.MemberScope<0 then if¬(i:Int)<=x.MemberScope then(idx (l.Scopes.take i) x.MemberScope).bind λy=>some (y.MemberScope !=-1)else some true else some true else some false)):o=some (my l i x):=by
 rw[ho];unfold my;by_cases h1:x.MemberScope = -1
 .grind
 by_cases h2:x.MemberScope<0
 .simp_all
 by_cases h3:(i:Int)<=x.MemberScope
 .simp_all
 .rw[if_pos h1,if_pos h2,if_pos h3,if_neg h1,if_neg h2,if_neg h3,Ij (by omega) (by grind),daa,faa (by omega),mac]
theorem DA{l:GLaw}(h:LawOk l) {i:Nat}(hi:i<l.Scopes.length):Mi l (i:Int)=some (Wg l i l.Scopes[i]):=by
 obtain⟨g1,g2,g3,g4,g5,g6⟩:=h.s _ (laa hi);have hne:=h.ne;have hnt:=h.nt;have hns:=h.ns;have hS:=qk h hi;have hRu:∀r∈l.Scopes[i].Rules,RuleOk r:=λr hr=>iH h hi hr;unfold Mi Wg;rw[Aa hi,daa,xu (by omega),daa];generalize l.Scopes[i]=x at g1 g2 g3 g4 g5 g6 hS hRu⊢;have gd:=g2.defs;have gr:=g2.rules;rw[xA hne,daa,uD hnt,cK (by grind),Bn (by omega)];have htk:(if(l.Enums.any λy=>decide (y.Name=x.Name))=false then(some (l.Tables.any λy=>decide (y.Name=x.Name))).bind λx5=>if x5=false then(some ((l.Scopes.take i).any λy=>decide (y.Name=x.Name))).bind λx7=>some x7 else some true else some true) =
  some ((l.Enums.any λy=>decide (y.Name=x.Name)) || ((l.Tables.any λy=>decide (y.Name=x.Name)) || (l.Scopes.take i).any λy=>decide (y.Name=x.Name))):=by
  grind
 rw[htk,daa,daa];cases Gi x.Name
 .rfl
 simp only[waa,if_false];cases (l.Enums.any λy=>decide (y.Name=x.Name)) || ((l.Tables.any λy=>decide (y.Name=x.Name)) || (l.Scopes.take i).any λy=>decide (y.Name=x.Name))
 .simp only[maa,if_false];rw[UM (l:=l) (x:=x) hi rfl,daa];cases my l i x
  .simp only[maa,if_false];by_cases hI:12<x.Inputs.length
   .grind
   rw[if_neg (by omega),if_neg hI];by_cases hD:12<x.Defs.length
   .grind
   rw[if_neg (by omega),if_neg hD];have l1:fa (zh l x) 0=some (Mb () (ff (QM l x) x.Inputs.length)):=
    Lb (λk=>(k:Int)) _ _ _ (λk hk _=>by
     unfold zh QM;rw[if_pos (by omega),Aa hk,daa,xu (by omega),daa,iu (g4 _ (laa hk)) (by grind) (by simp),daa,faa hk,wid (n:=100+(k:Int)) (by omega) (by omega),ya (by omega)];dsimp only;by_cases hz:Er l x.Inputs[k] (x.Inputs.take k) []=0
     .rw[if_neg (by omega),if_pos hz];rfl
     .rw[if_pos hz,if_neg hz];rfl) (λ_=>by grind[zh])
   have l2:fa (xh l x) 0=some (Mb () (ff (LC l x) x.Defs.length)):=
    Lb (λk=>(k:Int)) _ _ _ (λk hk _=>by
     unfold xh LC;rw[if_pos (by omega),Aa hk,daa,xu (by omega),daa,iu (g5 _ (laa hk)) g3 (by grind),daa,faa hk,wid (n:=200+(k:Int)) (by omega) (by omega),ya (by omega)];dsimp only;by_cases hz:Er l x.Defs[k] x.Inputs (x.Defs.take k)=0
     .rw[if_neg (by omega),if_pos hz];rfl
     .rw[if_pos hz,if_neg hz];rfl) (λ_=>by grind[xh])
   have l3:fa (wh x (Ds l x)) 0=some (Mb () (ff (fF l x) x.Rules.length)):=
    Lb (λk=>(k:Int)) _ _ _ (λk hk _=>by
     unfold wh fF;rw[if_pos (by omega),SB g2 hk (hRu _ (laa hk)),daa,faa hk,wid (n:=300+(k:Int)) (by omega) (by omega),ya (by omega)];dsimp only;by_cases hz:DB x (Ds l x) k x.Rules[k]=0
     .rw[if_neg (by omega),if_pos hz];rfl
     .rw[if_pos hz,if_neg hz];rfl) (λ_=>by grind[wh])
   have l4:fa (vh x) 0=some (Mb () (ff (LB x) x.Defs.length)):=
    Lb (λk=>(k:Int)) _ _ _ (λk hk _=>by
     obtain⟨q,q1,q2,q3⟩:=Yy g2 (k:Int);unfold vh LB;rw[if_pos (by omega),q1,daa,yG (by omega),daa,wid (n:=200+(k:Int)) (by omega) (by omega),ya (by omega)];by_cases hz:Way x (k:Int) (k:Int)
     .rw[if_pos (by simp_all),if_pos hz];rfl
     .rw[if_neg (by simp_all),if_neg hz];rfl) (λ_=>by grind[vh])
   rw[l1,daa]
   cases ff (QM l x) x.Inputs.length with
   |some v=>rfl
   |none=>
    simp only[Mb];rw[l2,daa]
    cases ff (LC l x) x.Defs.length with
    |some v=>rfl
    |none=>
     simp only[Mb];rw[hS,daa,l3,daa]
     cases ff (fF l x) x.Rules.length with
     |some v=>rfl
     |none=>
      simp only[Mb];rw[l4,daa];cases ff (LB x) x.Defs.length<;>rfl
  .rfl
 .rfl
theorem LG{α β:Type}{f:Nat->Option α}(g:α->β) {n:Nat}:ff (λk=>(f k).map g) n=(ff f n).map g:=by
 cases h1:ff f n with
 |none=>grind[Ob]
 |some v=>grind[Sa]
def wH(i:Nat) (v:Int×Int):GLawError:=⟨v.1,3,(i:Int),v.2⟩
theorem BP{l:GLaw}{x:GScope}{k:Nat}{v:Int×Int}(h:QM l x k=some v):v.1≠0:=by
 grind[QM]
theorem TK{l:GLaw}{x:GScope}{k:Nat}{v:Int×Int}(h:LC l x k=some v):v.1≠0:=by
 grind[LC]
theorem EL{l:GLaw}{x:GScope}{k:Nat}{v:Int×Int}(h:fF l x k=some v):v.1≠0:=by
 grind[fF]
theorem yS{x:GScope}{k:Nat}{v:Int×Int}(h:LB x k=some v):v.1≠0:=by
 grind[LB]
theorem bD{f:Nat->Option (Int×Int)}(hf:∀{k v},f k=some v->v.1≠0) {n:Nat}{v:Int×Int}(h:ff f n=some v):v.1≠0:=by
 grind[Sa]
theorem Ay{l:GLaw}(h:LawOk l) {i:Nat}(hi:i<l.Scopes.length):Xi l (i:Int)=some (match ff (QM l l.Scopes[i]) l.Scopes[i].Inputs.length with
 |some v=>wH i v
 |none=>match ff (LC l l.Scopes[i]) l.Scopes[i].Defs.length with
  |some v=>wH i v
  |none=>⟨0,0,0,0⟩):=by
 obtain⟨g1,g2,g3,g4,g5,g6⟩:=h.s _ (laa hi);unfold Xi;rw[Aa hi,daa];generalize l.Scopes[i]=x at g1 g2 g3 g4 g5 g6⊢;have gd:=g2.defs;have l1:fa (Ef l (i:Int) x) 0=some (Mb () ((ff (QM l x) x.Inputs.length).map (wH i))):=by
  rw[←LG];exact Lb (λk=>(k:Int)) _ _ _ (λk hk _=>by
   have hf:=g4 _ (laa hk);unfold Ef QM Er;rw[if_pos (by omega),Aa hk,daa,ml (by omega),daa,np g3 (by omega),daa,La,daa,faa hk,wid (n:=100+(k:Int)) (by omega) (by omega),ya (by omega)];dsimp only;generalize x.Inputs[k]=f;cases Gi f.Name
   .rfl
   cases (x.Inputs.take k).any λy=>decide (y.Name=f.Name)
   .cases ja f.Type_ l.Enums<;>rfl
   .rfl) (λ_=>by grind[Ef])
 have l2:fa (Df l (i:Int) x) 0=some (Mb () ((ff (LC l x) x.Defs.length).map (wH i))):=by
  rw[←LG];exact Lb (λk=>(k:Int)) _ _ _ (λk hk _=>by
   have hf:=g5 _ (laa hk);unfold Df LC Er;rw[if_pos (by omega),Aa hk,daa,ml (by omega),daa,np g3 (saa _),daa,np gd (by omega),La,daa,faa hk,wid (n:=200+(k:Int)) (by omega) (by omega),ya (by omega),Nab];dsimp only;generalize x.Defs[k]=f;cases Gi f.Name
   .rfl
   cases x.Inputs.any λy=>decide (y.Name=f.Name)
   .cases (x.Defs.take k).any λy=>decide (y.Name=f.Name)
    .cases ja f.Type_ l.Enums<;>rfl
    .rfl
   .rfl) (λ_=>by grind[Df])
 grind[Mb]
theorem By{l:GLaw}(h:LawOk l) {i:Nat}(hi:i<l.Scopes.length):aj l (i:Int)=some (if(Wg l i l.Scopes[i]).1=0 then⟨0,0,0,0⟩else wH i (Wg l i l.Scopes[i])):=by
 obtain⟨g1,g2,g3,g4,g5,g6⟩:=h.s _ (laa hi);have hne:=h.ne;have hnt:=h.nt;have hns:=h.ns;have hF:=Ay h hi;have hR:=λ{k:Nat} (hk:k<l.Scopes[i].Rules.length)=>Mz h hi hk;unfold aj Wg;rw[Aa hi,daa];generalize l.Scopes[i]=x at g1 g2 g3 g4 g5 g6 hF hR⊢;have gd:=g2.defs;have gr:=g2.rules;rw[ml (by omega),daa,M0 h (by omega),daa];cases Gi x.Name
 .rfl
 simp only[waa,if_false];cases (l.Enums.any λy=>decide (y.Name=x.Name)) || ((l.Tables.any λy=>decide (y.Name=x.Name)) || (l.Scopes.take i).any λy=>decide (y.Name=x.Name))
 .simp only[maa,if_false];rw[OP (l:=l) (x:=x) hi rfl,daa];cases my l i x
  .simp only[maa,if_false];by_cases hI:12<x.Inputs.length
   .rw[if_pos (by omega),if_pos hI];rfl
   rw[if_neg (by omega),if_neg hI];by_cases hD:12<x.Defs.length
   .rw[if_pos (by omega),if_pos hD];rfl
   rw[if_neg (by omega),if_neg hD,hF,daa];have l3:fa (Ve l (i:Int) x) 0=some (Mb () ((ff (fF l x) x.Rules.length).map (wH i))):=by
    rw[←LG];exact Lb (λk=>(k:Int)) _ _ _ (λk hk _=>by
     unfold Ve fF;rw[if_pos (by omega),hR hk,daa,faa hk,wid (n:=300+(k:Int)) (by omega) (by omega),ya (by omega)];dsimp only;by_cases hz:DB x (Ds l x) k x.Rules[k]=0
     .rw[if_neg (by omega),if_pos hz];rfl
     .rw[if_pos hz,if_neg hz];rfl) (λ_=>by grind[Ve])
   have l4:fa (Ue (i:Int) x) 0=some (Mb () ((ff (LB x) x.Defs.length).map (wH i))):=by
    rw[←LG];exact Lb (λk=>(k:Int)) _ _ _ (λk hk _=>by
     have q3:=λy=>pL (s:=x) (d:=(k:Int)) (y:=y);have q2:=(dA x (k:Int) x.Defs.length).len;have l5:fa (Ff (i:Int) (k:Int) (cA x (k:Int) x.Defs.length)) 0=some (Mb () (ff (λj=>if((cA x (k:Int) x.Defs.length)[j]?.any λy=>decide (y=(k:Int)))=true then some (Ex.ret (wH i (9,200+(k:Int))))else none) (cA x (k:Int) x.Defs.length).length)):=
      Lb (λj=>(j:Int)) _ _ _ (λj hj _=>by
       unfold Ff;rw[if_pos (by omega),Aa hj,daa,faa hj,wid (n:=200+(k:Int)) (by omega) (by omega),ya (by omega)];simp only[dab,decide_eq_true_eq];by_cases he:(cA x (k:Int) x.Defs.length)[j]=(k:Int)
       .rw[if_pos he,if_pos he];rfl
       .rw[if_neg he,if_neg he];rfl) (λ_=>by grind[Ff])
     unfold Ue LB;rw[if_pos (by omega),xy g2,daa,l5,daa,ya (by omega)];have hany:=ym (l:=cA x (k:Int) x.Defs.length) (q:=λy=>decide (y=(k:Int))) (g:=λ_=>(Ex.ret (wH i (9,200+(k:Int))):Ex Int Unit GLawError))
     cases h2:ff (λj=>if((cA x (k:Int) x.Defs.length)[j]?.any λy=>decide (y=(k:Int)))=true then some (Ex.ret (wH i (9,200+(k:Int))):Ex Int Unit GLawError)else none) (cA x (k:Int) x.Defs.length).length with
     |none=>
      rw[h2]at hany;rw[if_neg]
      .rfl
      grind
     |some v=>
      rw[h2]at hany;obtain⟨y,hy,hyk⟩:=Bad.1 hany.symm;have:y=(k:Int):=by simp_all
      subst this;rw[if_pos ((q3 _).1 hy)];obtain⟨j,-,j2,-⟩:=Sa.1 h2;split at j2
      .injection j2 with j2;subst j2;rfl
      simp_all) (λ_=>by grind[Ue])
   cases hf1:ff (QM l x) x.Inputs.length with
   |some v=>
    have:=bD (f:=QM l x) BP hf1
    simp_all[wH]
   |none=>
    dsimp only
    cases hf2:ff (LC l x) x.Defs.length with
    |some v=>
     have:=bD (f:=LC l x) TK hf2
     simp_all[wH]
    |none=>
     dsimp only;rw[if_neg (by simp),l3]
     cases hf3:ff (fF l x) x.Rules.length with
     |some v=>
      have:=bD (f:=fF l x) EL hf3
      simp_all[Mb]
     |none=>
      simp only[Option.map_none,Mb,daa];rw[l4]
      cases hf4:ff (LB x) x.Defs.length with
      |some v=>
       have:=bD (f:=LB x) yS hf4
       simp_all[Mb]
      |none=>rfl
  .rfl
 .rfl
noncomputable def Nl(l:GLaw):GLawError:=
 if 8<l.Enums.length then⟨4,1,8,0⟩
 else match ff (λi=>match l.Enums[i]? with|some x=>if(Ke l i x).1=0 then none else some (⟨(Ke l i x).1,1,(i:Int),(Ke l i x).2⟩:GLawError)|none=>none) l.Enums.length with
  |some v=>v
  |none=>
   if 8<l.Tables.length then⟨4,2,8,0⟩
   else match ff (λi=>match l.Tables[i]? with|some x=>if(Pm l i x).1=0 then none else some (⟨(Pm l i x).1,2,(i:Int),(Pm l i x).2⟩:GLawError)|none=>none) l.Tables.length with
    |some v=>v
    |none=>
     if 4<l.Scopes.length then⟨4,3,4,0⟩
     else(ff (λi=>match l.Scopes[i]? with|some x=>if(Wg l i x).1=0 then none else some (wH i (Wg l i x))|none=>none) l.Scopes.length).getD ⟨0,0,0,0⟩
theorem nC{f:Nat->Option GLawError}(hf:∀{k v},f k=some v->v.Code≠0) {n:Nat}{v:GLawError}(h:ff f n=some v):v.Code≠0:=by
 grind[Sa]
theorem cP{l:GLaw}{k:Nat}{v:GLawError}(h:(match l.Enums[k]? with|some x=>if(Ke l k x).1=0 then none else some (⟨(Ke l k x).1,1,(k:Int),(Ke l k x).2⟩:GLawError)|none=>none)=some v):v.Code≠0:=by
 grind
theorem xR{l:GLaw}{k:Nat}{v:GLawError}(h:(match l.Tables[k]? with|some x=>if(Pm l k x).1=0 then none else some (⟨(Pm l k x).1,2,(k:Int),(Pm l k x).2⟩:GLawError)|none=>none)=some v):v.Code≠0:=by
 grind
theorem cw{l:GLaw}(h:LawOk l):Xl l=some (Nl l):=by
 have hne:=h.ne;have hnt:=h.nt;have hns:=h.ns;have le:fa (uh l) 0=some (Mb () (ff (λi=>match l.Enums[i]? with|some x=>if(Ke l i x).1=0 then none else some (⟨(Ke l i x).1,1,(i:Int),(Ke l i x).2⟩:GLawError)|none=>none) l.Enums.length)):=
  Lb (λk=>(k:Int)) _ _ _ (λk hk _=>by
   unfold uh;rw[if_pos (by omega),Aa hk,daa,RB h hk,daa,faa hk,ya (by omega)];dsimp only;by_cases hz:(Ke l k l.Enums[k]).1=0
   .rw[if_neg (by omega),if_pos hz];rfl
   .rw[if_pos hz,if_neg hz];rfl) (λ_=>by grind[uh])
 have ls:fa (tg l) 0=some (Mb () (ff (λi=>match l.Scopes[i]? with|some x=>if(Wg l i x).1=0 then none else some (wH i (Wg l i x))|none=>none) l.Scopes.length)):=
  Lb (λk=>(k:Int)) _ _ _ (λk hk _=>by
   unfold tg;rw[if_pos (by omega),DA h hk,daa,faa hk,ya (by omega)];dsimp only;by_cases hz:(Wg l k l.Scopes[k]).1=0
   .rw[if_neg (by omega),if_pos hz];rfl
   .rw[if_pos hz,if_neg hz];rfl) (λ_=>by grind[tg])
 unfold Xl Yn Vm Um Nl;by_cases h8:8<l.Enums.length
 .grind
 rw[if_neg (by omega),if_neg h8,le]
 cases hf1:ff (λi=>match l.Enums[i]? with|some x=>if(Ke l i x).1=0 then none else some (⟨(Ke l i x).1,1,(i:Int),(Ke l i x).2⟩:GLawError)|none=>none) l.Enums.length with
 |some v=>
  have:=nC (f:=λi=>match l.Enums[i]? with|some x=>if(Ke l i x).1=0 then none else some (⟨(Ke l i x).1,1,(i:Int),(Ke l i x).2⟩:GLawError)|none=>none) cP hf1
  simp_all[Mb]
 |none=>
  simp only[Mb,daa];rw[if_neg (by simp)];by_cases h8:8<l.Tables.length
  .grind
  rw[if_neg (by omega),if_neg h8,SM h]
  cases hf2:ff (λi=>match l.Tables[i]? with|some x=>if(Pm l i x).1=0 then none else some (⟨(Pm l i x).1,2,(i:Int),(Pm l i x).2⟩:GLawError)|none=>none) l.Tables.length with
  |some v=>
   have:=nC (f:=λi=>match l.Tables[i]? with|some x=>if(Pm l i x).1=0 then none else some (⟨(Pm l i x).1,2,(i:Int),(Pm l i x).2⟩:GLawError)|none=>none) xR hf2
   simp_all[Mb]
  |none=>
   simp only[Mb,daa];rw[if_neg (by simp)];by_cases h8:4<l.Scopes.length
   .grind
   rw[if_neg (by omega),if_neg h8,ls];cases ff (λi=>match l.Scopes[i]? with|some x=>if(Wg l i x).1=0 then none else some (wH i (Wg l i x))|none=>none) l.Scopes.length<;>rfl
theorem PA{l:GLaw}(h:LawOk l):Fl l=some (Nl l):=by
 have hne:=h.ne;have hnt:=h.nt;have hns:=h.ns;have le:fa (Oh l) 0=some (Mb () (ff (λi=>match l.Enums[i]? with|some x=>if(Ke l i x).1=0 then none else some (⟨(Ke l i x).1,1,(i:Int),(Ke l i x).2⟩:GLawError)|none=>none) l.Enums.length)):=
  Lb (λk=>(k:Int)) _ _ _ (λk hk _=>by
   unfold Oh;rw[if_pos (by omega),Kz h hk,daa,faa hk,ya (by omega)];dsimp only;by_cases hz:(Ke l k l.Enums[k]).1=0
   .rw[if_pos hz,if_neg (by simp),if_pos hz];rfl
   .rw[if_neg hz,if_pos (by omega),if_neg hz];rfl) (λ_=>by grind[Oh])
 have lt:fa (Nh l) 0=some (Mb () (ff (λi=>match l.Tables[i]? with|some x=>if(Pm l i x).1=0 then none else some (⟨(Pm l i x).1,2,(i:Int),(Pm l i x).2⟩:GLawError)|none=>none) l.Tables.length)):=
  Lb (λk=>(k:Int)) _ _ _ (λk hk _=>by
   unfold Nh;rw[if_pos (by omega),Cy h hk,daa,faa hk,ya (by omega)];dsimp only;by_cases hz:(Pm l k l.Tables[k]).1=0
   .rw[if_pos hz,if_neg (by simp),if_pos hz];rfl
   .rw[if_neg hz,if_pos (by omega),if_neg hz];rfl) (λ_=>by grind[Nh])
 have ls:fa (Mh l) 0=some (Mb () (ff (λi=>match l.Scopes[i]? with|some x=>if(Wg l i x).1=0 then none else some (wH i (Wg l i x))|none=>none) l.Scopes.length)):=
  Lb (λk=>(k:Int)) _ _ _ (λk hk _=>by
   unfold Mh;rw[if_pos (by omega),By h hk,daa,faa hk,ya (by omega)];dsimp only;by_cases hz:(Wg l k l.Scopes[k]).1=0
   .rw[if_pos hz,if_neg (by simp),if_pos hz];rfl
   .rw[if_neg hz,if_pos (by grind[wH]),if_neg hz];rfl) (λ_=>by grind[Mh])
 unfold Fl Nl;by_cases h8:8<l.Enums.length
 .grind
 rw[if_neg (by omega),if_neg h8,le]
 cases ff (λi=>match l.Enums[i]? with|some x=>if(Ke l i x).1=0 then none else some (⟨(Ke l i x).1,1,(i:Int),(Ke l i x).2⟩:GLawError)|none=>none) l.Enums.length with
 |some v=>rfl
 |none=>
  simp only[Mb,daa];by_cases h8:8<l.Tables.length
  .grind
  rw[if_neg (by omega),if_neg h8,lt]
  cases ff (λi=>match l.Tables[i]? with|some x=>if(Pm l i x).1=0 then none else some (⟨(Pm l i x).1,2,(i:Int),(Pm l i x).2⟩:GLawError)|none=>none) l.Tables.length with
  |some v=>rfl
  |none=>
   simp only[Mb,daa];by_cases h8:4<l.Scopes.length
   .grind
   rw[if_neg (by omega),if_neg h8,ls];cases ff (λi=>match l.Scopes[i]? with|some x=>if(Wg l i x).1=0 then none else some (wH i (Wg l i x))|none=>none) l.Scopes.length<;>rfl
structure Valid (l:GLaw):Prop where
 e:∀i (h:i<l.Enums.length),(Ke l i l.Enums[i]).1=0
 t:∀i (h:i<l.Tables.length),(Pm l i l.Tables[i]).1=0
 s:∀i (h:i<l.Scopes.length),(Wg l i l.Scopes[i]).1=0
 ne:l.Enums.length<=8
 nt:l.Tables.length<=8
 ns:l.Scopes.length<=4
theorem Cu{l:GLaw}(h:(Nl l).Code=0):Valid l:=by
 unfold Nl at h;split at h
 .grind
 rename_i h1;split at h
 .rename_i v hv;exact(nC (f:=λi=>match l.Enums[i]? with|some x=>if(Ke l i x).1=0 then none else some (⟨(Ke l i x).1,1,(i:Int),(Ke l i x).2⟩:GLawError)|none=>none) cP hv h).elim
 rename_i he;split at h
 .grind
 rename_i h2;split at h
 .rename_i v hv;exact(nC (f:=λi=>match l.Tables[i]? with|some x=>if(Pm l i x).1=0 then none else some (⟨(Pm l i x).1,2,(i:Int),(Pm l i x).2⟩:GLawError)|none=>none) xR hv h).elim
 rename_i ht;split at h
 .grind
 rename_i h3;refine⟨λi hi=>?_,λi hi=>?_,λi hi=>?_,by omega,by omega,by omega⟩
 .grind[Ob]
 .grind[Ob]
 .generalize hf:ff _ l.Scopes.length=o at h
  cases o with
  |some v=>
   rw[cac]at h;obtain⟨k,k1,k2,-⟩:=Sa.1 hf;rw[faa k1]at k2;dsimp only at k2;split at k2
   .grind
   .rename_i hne;injection k2 with k2;subst k2;exact(hne h).elim
  |none=>
   grind[Ob]
theorem Valid.mem{l:GLaw}(h:Valid l):∀x∈l.Enums,x.Members.length<=16:=by
 intro x hx;obtain⟨i,hi,rfl⟩:=Daa hx;have:=h.e i hi
 grind[Ke]
theorem Valid.rows{l:GLaw}(h:Valid l):∀x∈l.Tables,x.Rows.length<=64:=by
 intro x hx;obtain⟨i,hi,rfl⟩:=Daa hx;have:=h.t i hi
 grind[Pm,Ho]
theorem kC{n:Nat}(hn:n<=1048576) (bad:Nat->Bool) {step:Int->Option (Ex Int Unit Bool)}(hstep:∀i:Nat,i<n->step (i:Int)=if bad i=true then some (.ret false)else some (.go (da .i64 ((i:Int)+1)))) (hend:step (n:Int)=some (.brk ())) :
 (fa step 0=some (.inr false))\/(fa step 0=some (.inl ())/\∀i,i<n->bad i=false):=by
 have h:=Lb (step:=step) (x0:=0) (λi=>(i:Int)) (λi=>if bad i=true then some false else none) n () (λi hi _=>by
  rw[hstep i hi,ya (by omega)];cases bad i<;>rfl) (λ_=>hend)
 cases hf:ff (λi=>if bad i=true then some false else none) n with
 |none=>
  right;rw[hf]at h;refine⟨h,λi hi=>?_⟩
  grind[Ob]
 |some v=>
  left;rw[hf]at h;obtain⟨k,-,k2,-⟩:=Sa.1 hf;split at k2
  .injection k2 with k2;subst k2;exact h
  grind
structure SmallSc (s:GScope):Prop where
 nm:s.Name.size<=80
 ins:s.Inputs.length<=14
 defs:s.Defs.length<=14
 rules:s.Rules.length<=60
 i:∀f∈s.Inputs,f.Name.size<=80
 d:∀f∈s.Defs,f.Name.size<=80
 r:∀r∈s.Rules,r.Name.size<=80/\r.Source.size<=80/\r.Guard.length<=50/\r.Value.length<=50
theorem Wz(s:GScope):∃b,uf s=some b/\(b=true->SmallSc s):=by
 unfold uf;by_cases h1:80<(s.Name.size:Int)
 .simp_all
 by_cases h2:14<(s.Inputs.length:Int)
 .simp_all
 by_cases h3:14<(s.Defs.length:Int)
 .simp_all
 by_cases h4:60<(s.Rules.length:Int)
 .simp_all
 have hc:(if¬80<(s.Name.size:Int)then if¬14<(s.Inputs.length:Int)then if¬14<(s.Defs.length:Int)then some (decide (60<(s.Rules.length:Int)))else some true else some true else some true)=some false:=by
  grind
 rw[hc,daa,if_neg (by simp)];rcases kC (n:=s.Inputs.length) (by omega) (λi=>match s.Inputs[i]? with|some f=>decide (80<(f.Name.size:Int))|none=>false) (step:=Mg s) (λi hi=>by
  grind[Mg,Aa]) (by grind[Mg])with k|⟨k,k1⟩
 .grind
 rw[k,daa];dsimp only;rcases kC (n:=s.Defs.length) (by omega) (λi=>match s.Defs[i]? with|some f=>decide (80<(f.Name.size:Int))|none=>false) (step:=Lg s) (λi hi=>by
  grind[Lg,Aa]) (by grind[Lg])with k|⟨k,k2⟩
 .grind
 rw[k,daa];dsimp only;rcases kC (n:=s.Rules.length) (by omega) (λi=>match s.Rules[i]? with|some r=>decide (80<(r.Name.size:Int)\/80<(r.Source.size:Int)\/50<(r.Guard.length:Int)\/50<(r.Value.length:Int))|none=>false) (step:=Kg s) (λi hi=>by
  unfold Kg;rw[if_pos (by omega),Aa hi,daa,faa hi]
  grind) (by grind[Kg])with k|⟨k,k3⟩
 .grind
 rw[k,daa];refine⟨true,rfl,λ_=>⟨by omega,by omega,by omega,by omega,?_,?_,?_⟩⟩
 .intro f hf;obtain⟨i,hi,rfl⟩:=Daa hf
  grind
 .intro f hf;obtain⟨i,hi,rfl⟩:=Daa hf
  grind
 .intro r hr;obtain⟨i,hi,rfl⟩:=Daa hr
  grind
def Dy(l:GLaw):Nat->Int
 |0=>0
 |k+1=>match l.Tables[k]? with|some t=>da .i64 (Dy l k+(t.Rows.length:Int))|none=>Dy l k
structure SmallL (l:GLaw):Prop where
 ne:l.Enums.length<=9
 nt:l.Tables.length<=9
 ns:l.Scopes.length<=5
 e:∀x∈l.Enums,x.Name.size<=80/\x.Members.length<=20/\∀m∈x.Members,m.size<=80
 t:∀x∈l.Tables,x.Name.size<=80
 s:∀x∈l.Scopes,SmallSc x
 rt:∀i,i<l.Tables.length->Dy l (i+1)<=150
def Ow(l:GLaw):Nat->Int
 |0=>0
 |k+1=>match l.Scopes[k]? with|some t=>da .i64 (Ow l k+(t.Rules.length:Int))|none=>Ow l k
def eP(l:GLaw) (i:Nat):Bool:=match l.Enums[i]? with|some x=>decide (80<(x.Name.size:Int)) || decide (20<(x.Members.length:Int)) || (x.Members.any λm=>decide (80<(m.size:Int)))|none=>false
theorem dI{l:GLaw}{i:Nat}(hi:i<l.Enums.length):eP l i=(decide (80<(l.Enums[i].Name.size:Int)) || decide (20<(l.Enums[i].Members.length:Int)) || (l.Enums[i].Members.any λm=>decide (80<(m.size:Int)))):=by
 grind[eP]
theorem cC(l:GLaw):∃b,Om l=some b/\(b=true->SmallL l):=by
 unfold Om;by_cases h1:9<(l.Enums.length:Int)
 .simp_all
 by_cases h2:9<(l.Tables.length:Int)
 .simp_all
 by_cases h3:5<(l.Scopes.length:Int)
 .simp_all
 have hc:(if¬9<(l.Enums.length:Int)then if¬9<(l.Tables.length:Int)then some (decide (5<(l.Scopes.length:Int)))else some true else some true)=some false:=by
  grind
 rw[hc,daa,if_neg (by simp)];have hin:∀i (hi:i<l.Enums.length),l.Enums[i].Members.length<=20->fa (Zf l (i:Int)) 0=some (if(l.Enums[i].Members.any λm=>decide (80<(m.size:Int)))=true then .inr (.ret false)else .inl ()):=by
  intro i hi hm;have h:=Lb (step:=Zf l (i:Int)) (x0:=0) (λk=>(k:Int)) (λk=>if(l.Enums[i].Members[k]?.any λm=>decide (80<(m.size:Int)))=true then some (Ex.ret false)else none) l.Enums[i].Members.length () (λk hk _=>by
   unfold Zf;rw[Aa hi,daa,if_pos (by omega),Aa hk,daa,faa hk,ya (by omega)];simp only[dab,decide_eq_true_eq];by_cases hb:80<(l.Enums[i].Members[k].size:Int)
   .rw[if_pos hb,if_pos hb];rfl
   .rw[if_neg hb,if_neg hb];rfl) (λ_=>by grind[Zf,Aa])
  rw[h,←ym (g:=λ_=>(Ex.ret false:Ex Int Unit Bool))]
  cases hf:ff (λk=>if(l.Enums[i].Members[k]?.any λm=>decide (80<(m.size:Int)))=true then some (Ex.ret false:Ex Int Unit Bool)else none) l.Enums[i].Members.length with
  |none=>rfl
  |some v=>
   obtain⟨k,-,k2,-⟩:=Sa.1 hf;split at k2
   .injection k2 with k2;subst k2;rfl
   grind
 rcases kC (n:=l.Enums.length) (by omega) (eP l) (step:=Yh l) (λi hi=>by
  have hin:=hin i hi;unfold Yh;rw[if_pos (by omega),Aa hi,daa,dI hi]
  grind) (by grind[Yh])with k|⟨k,k1⟩
 .grind
 rw[k,daa];dsimp only;have hT:=Lb (step:=Xh l) (x0:=(0,0)) (λi=>(Dy l i,(i:Int))) (λi=>match l.Tables[i]? with|some x=>if(decide (80<(x.Name.size:Int)) || decide (150<Dy l (i+1)))=true then some false else none|none=>none) l.Tables.length () (λi hi _=>by
  unfold Xh;simp only[Dy,faa hi];rw[if_pos (by omega),Aa hi,daa,ya (by omega)]
  grind[pD]) (λ_=>by grind[Xh])
 rw[hT,daa]
 cases hf:ff (λi=>match l.Tables[i]? with|some x=>if(decide (80<(x.Name.size:Int)) || decide (150<Dy l (i+1)))=true then some false else none|none=>none) l.Tables.length with
 |some v=>
  refine⟨false,?_,by simp⟩;obtain⟨j,j1,j2,-⟩:=Sa.1 hf;rw[faa j1]at j2;dsimp only at j2;split at j2
  .injection j2 with j2;subst j2;rfl
  grind
 |none=>
  have ht2:=Ob.1 hf;dsimp only[Mb];have hS:=Lb (step:=Vh l) (x0:=(0,0)) (λi=>(Ow l i,(i:Int))) (λi=>match l.Scopes[i]? with|some x=>if(decide (60<Ow l (i+1)) || !((uf x).getD true))=true then some false else none|none=>none) l.Scopes.length () (λi hi _=>by
   unfold Vh;simp only[Ow,faa hi];rw[if_pos (by omega),Aa hi,daa,ya (by omega)];obtain⟨b,hb,-⟩:=Wz l.Scopes[i]
   grind[pD]) (λ_=>by grind[Vh])
  rw[hS,daa]
  cases hf2:ff (λi=>match l.Scopes[i]? with|some x=>if(decide (60<Ow l (i+1)) || !((uf x).getD true))=true then some false else none|none=>none) l.Scopes.length with
  |some v=>
   refine⟨false,?_,by simp⟩;obtain⟨j,j1,j2,-⟩:=Sa.1 hf2;rw[faa j1]at j2;dsimp only at j2;split at j2
   .injection j2 with j2;subst j2;rfl
   grind
  |none=>
   have hs2:=Ob.1 hf2;refine⟨true,rfl,λ_=>⟨by omega,by omega,by omega,?_,?_,?_,λi hi=>?_⟩⟩
   .intro x hx;obtain⟨i,hi,rfl⟩:=Daa hx
    grind[dI]
   .intro x hx;obtain⟨i,hi,rfl⟩:=Daa hx
    grind
   .intro x hx;obtain⟨i,hi,rfl⟩:=Daa hx;have:=hs2 i hi;rw[faa hi]at this;dsimp only at this;split at this
    .cases this
    .rename_i hn;obtain⟨b,hb,hb2⟩:=Wz l.Scopes[i]
     grind
   grind
def AH(l:GLaw):Prop:=∀s∈l.Scopes,∀r∈s.Rules,(∀n∈r.Guard,wb n)/\∀n∈r.Value,wb n
theorem SmallL.ok{l:GLaw}(h:SmallL l) (ht:AH l):LawOk l:=by
 have hne:=h.ne;have hnt:=h.nt;have hns:=h.ns;refine⟨by omega,by omega,by omega,λx hx=>?_,λx hx=>?_,λx hx=>?_⟩
 .obtain⟨a,b,c⟩:=h.e x hx
  grind
 .have:=h.t x hx;omega
 .obtain⟨a,b,c,d,e,f,g⟩:=h.s x hx;refine⟨by omega,⟨by omega,by omega,λr hr=>by grind⟩,by omega,λq hq=>by grind,λq hq=>by grind,λr hr=>?_⟩;have:=g r hr;obtain⟨t1,t2⟩:=ht x hx r hr
  grind
end Go.Proofs.Dev
