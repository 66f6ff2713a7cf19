/-
  The functions as plain partial functions, and plain lemmas about them: no condition.
-/
import Derived.Test.YtmhfebelfmgckaaGreatDoorPA
open Bool renaming and_false->pae,false_and->qae,false_eq_true->Eaa,not_eq_true->Pac,not_false->mac,not_true->Rab,or_false->xae,true_and->Jab,true_eq_false->Raa
open ByteArray renaming empty->Ead,mk->Gaa
open Classical renaming not_forall->lae,not_imp->Gae
open Int renaming natAbs_tdiv->Rae,reduceBEq->Oaa,reduceEq->Jaa,tdiv->Naa,tdiv_nonneg->Had,tmod->Taa,tmod_nonneg->iae
open List renaming any_eq_true->aae,cons_append->Waa,eq_nil_of_length_eq_zero->Uaa,filter_append->uab,foldl_cons->bac,getElem?_eq_getElem->Baa,getElem_mem->Iaa,getElem_of_mem->Maa,getElem_take->ead,length_filter_le->Yaa,mem_cons->Tab,mem_filter->Bac,mem_map->pac,mem_of_mem_drop->iad,mem_singleton->Nab,nodup_cons->jae,pairwise_cons->Oab,range->Kaa,replicate->Daa,take_add_one->Xaa,take_length->tac
open Nat renaming add_zero->Kac,le_refl->Paa,le_trans->Bab
open Option renaming any_some->rac,bind->Aaa,bind_some->zaa,getD_some->Lab,isSome_iff_exists->Nac
open Option.some renaming inj->wab,injEq->dab
set_option linter.all false
namespace Go.Tm
variable {i b:Nat}
variable {α β ρ σ:Type}
theorem wid{n:Int}(h1:-9223372036854775808<=n) (h2:n<9223372036854775808):aa .i64 n=n:=by
 grind[aa,XH]
theorem sa(h:i<4611686018427387904):aa .i64 ((i:Int)+1)=((i+1:Nat):Int):=by
 grind[wid]
theorem ya{l:List α}(h:i<l.length):idx l (i:Int)=some l[i]:=by
 grind[idx]
theorem u6{l:List α}:idx l (i:Int)=l[i]?:=by
 simp[idx]
theorem bh{l:List α}{i:Int}(h1:0<=i) (h2:i<l.length):idx l i=some (l[i.toNat]'(by omega)):=by
 simp_all[idx]
theorem JN{b:ByteArray}(h:i<b.size):Jx b (i:Int)=some (b[i].toNat:Int):=by
 simp_all[Jx]
theorem Hy{l:List α}(h:i<=l.length):ju l (i:Int)=some (l.take i):=by
 simp_all[ju]
theorem caa{l:List α}(h:i<=l.length):dH l (i:Int)=some (l.drop i):=by
 simp_all[dH]
theorem uf{l r:List α}(h:(l.length+r.length)*b<=140737488355328):app b l r=some (l++r):=if_pos (by omega)
theorem aB{l:List α}{x:α}(h:i<l.length):put l (i:Int) x=some (l.set i x):=by
 simp_all[put]
theorem Zy{n:Nat}{x:α}(h:n*b<=281474976710656) (h2:n<=4611686018427387904):UB b x (n:Int) (n:Int)=some (Daa n x):=by
 grind[UB]
def ff(f:Nat->Option ρ):Nat->Option ρ
 |0=>none
 |n+1=>match f 0 with|some v=>some v|none=>ff (λi=>f (i+1)) n
theorem ab{f:Nat->Option ρ}:∀{n:Nat},ff f n=none↔∀i,i<n->f i=none
 |0=>by simp[ff]
 |n+1=>by
  simp only[ff];constructor
  .intro h i hi
   cases a:f 0 with
   |some v=>simp_all
   |none=>
    simp only[a]at h
    cases i with
    |zero=>omega
    |succ i=>exact(ab (f:=λi=>f (i+1))).1 h i (by omega)
  .intro h;rw[h 0 (by omega)];exact ab.2 λi hi=>h (i+1) (by omega)
theorem Pa{f:Nat->Option ρ}{v:ρ}:∀{n:Nat},ff f n=some v↔∃i,i<n/\f i=some v/\∀j,j<i->f j=none
 |0=>by simp[ff]
 |n+1=>by
  simp only[ff];constructor
  .intro h
   cases b:f 0 with
   |some w=>grind
   |none=>
    simp only[b]at h;obtain⟨i,c,h2,a⟩:=(Pa (f:=λi=>f (i+1))).1 h;exact⟨i+1,by omega,h2,λj hj=>by cases j with|zero=>omega|succ j=>simp_all⟩
  .rintro⟨i,c,h2,a⟩
   cases i with
   |zero=>rw[h2]
   |succ i=>
    rw[a 0 (by omega)];exact Pa.2 ⟨i,by omega,h2,λj hj=>a (j+1) (by omega)⟩
def Eb(b:β):Option ρ->β⊕ρ
 |none=>.inl b
 |some v=>.inr v
def aD(s:σ):Option ρ->Ex σ β ρ
 |none=>.go s
 |some v=>.ret v
theorem uK{b:β}:Eb b (none:Option ρ)=.inl b:=rfl
theorem mU{b:β}{v:ρ}:Eb b (some v)=.inr v:=rfl
theorem xb{step:σ->Option (Ex σ β ρ)}{x0:σ}(S:Nat->σ) (f:Nat->Option ρ) (n:Nat) (b:β)
 (e:∀i,i<n->(∀j,j<i->f j=none)->step (S i)=some (aD (S (i+1)) (f i))) (a:(∀j,j<n->f j=none)->step (S n)=some (.brk b)) (d:x0=S 0:=by rfl) :
 ca step x0=some (Eb b (ff f n)):=by
 have key:∀k i,i+k=n->(∀j,j<i->f j=none)->ca step (S i)=some (Eb b (ff (λj=>f (i+j)) k)):=by
  intro k
  induction k with
  |zero=>
   intro i hi hf;rw[Kac]at hi;subst hi;rw[vc (a hf)];rfl
  |succ k g=>
   intro i hi hf;have c:=e i (by omega) hf;simp only[ff,Kac]
   cases d:f i with
   |some v=>
    rw[d]at c;rw[Ms c];rfl
   |none=>
    rw[d]at c;rw[yg c,g (i+1) (by omega) λj hj=>by grind]
    grind
 simp_all
theorem kf{step:σ->Option (Ex σ β ρ)}{x0:σ}(S:Nat->σ) (n:Nat) (b:β) (hgo:∀i,i<n->step (S i)=some (.go (S (i+1)))) (hend:step (S n)=some (.brk b)) (h0:x0=S 0:=by rfl):ca step x0=some (.inl b):=by
 have key:∀k i,i+k=n->ca step (S i)=some (.inl b):=by
  intro k
  induction k with
  |zero=>simp_all[vc]
  |succ k ih=>grind[yg]
 simp_all
theorem indexF{l:List α}{p:α->Option Bool}(q:α->Bool) (a:∀x∈l,p x=some (q x)) (hl:l.length<4611686018427387904) :
 ca (λ(s:Int)=>if s<(l.length:Int)then(idx l s).bind λx=>(p x).bind λc=>if c=true then some (Ex.ret s)else some (Ex.go (aa .i64 (s+1)))else some (Ex.brk ())) 0
  = some (Eb () (ff (λi=>if(l[i]?.any q)=true then some (i:Int)else none) l.length)):=by
 refine xb (λi=>(i:Int)) _ l.length () (λi hi _=>?_) (λ_=>?_)
 .rw[if_pos (by omega),ya hi,zaa,a _ (Iaa hi),zaa,wid (by omega) (by omega)]
  grind[aD]
 simp
theorem Ku{l:List α}{q:α->Bool}{g:Nat->ρ}:(ff (λi=>if(l[i]?.any q)=true then some (g i)else none) l.length).isSome=l.any q:=by
 rw[Bool.eq_iff_iff,Nac,aae];constructor
 .grind[Pa]
 .rintro⟨x,hx,hq⟩;rw[←Nac,←Option.not_isNone,Bool.not_eq_true',Option.isNone_eq_false_iff,Option.isSome_iff_ne_none];intro hn;obtain⟨i,hi,rfl⟩:=Maa hx
  grind[ab]
theorem Au{l:List α}{p:α->Option Bool}(q:α->Bool) (a:∀x∈l,p x=some (q x)) (hl:l.length<4611686018427387904) {o:Option (Unit⊕Int)}
 (ho:o=ca (λ(s:Int)=>if s<(l.length:Int)then(idx l s).bind λx=>(p x).bind λc=>if c=true then some (Ex.ret s)else some (Ex.go (aa .i64 (s+1)))else some (Ex.brk ())) 0) :
 ((o.bind λy=>match y with|.inr v=>some v|.inl _=>some (-1)).bind λx=>some (decide (0<=x)))=some (l.any q):=by
 rw[ho,indexF q a hl];rw[←Ku (q:=q) (g:=λi=>(i:Int))]
 cases h:ff (λi=>if(l[i]?.any q)=true then some (i:Int)else none) l.length with
 |none=>simp[Eb]
 |some v=>
  grind[Eb,Pa]
end Go.Tm
set_option maxRecDepth 10000
namespace Go.Proofs.Dev
open Go Go.Tm
variable {s:ByteArray}{op:Int}
def N6(c:Int):Bool:=decide (97<=c)&&decide (c<=122)
def digB(c:Int):Bool:=decide (48<=c)&&decide (c<=57)
def oS(c:Int):Bool:=N6 c || digB c || c==95
theorem XB{a b c:Int}:(Aaa (if a<=c then some (decide (c<=b))else some false) λj=>some j)=some (decide (a<=c)&&decide (c<=b)):=by
 grind
theorem KA(c:Int):nr c=some (N6 c):=XB
theorem nI(c:Int):dv c=some (digB c):=XB
theorem JD(c:Int):Rv c=some (N6 c):=XB
theorem kM(c:Int):By c=some (digB c):=XB
theorem UO(c:Int):wx c=some (oS c):=by
 grind[wx,oS,JD,kM]
def xw(s:ByteArray) (i:Nat):Bool:=if h:i<s.size then oS (s[i].toNat:Int)else false
def vC(s:ByteArray):Bool:=(ff (λi=>if xw s i=true then none else some ()) s.size).isNone
theorem bE(hs:s.size<4611686018427387904):∃n,Dm s=some n/\(n=(s.size:Int)↔vC s=true):=by
 have hstep:∀i:Nat,i<s.size->Xd s (i:Int)=some (if xw s i=true then .go ((i+1:Nat):Int)else .brk (i:Int)):=by
  intro i hi;unfold Xd;rw[if_pos (by omega),JN hi,zaa];simp only[KA,nI,zaa,xw,dif_pos hi,oS]
  grind[wid]
 have w1:∀i,(if xw s i=true then none else some ())=none->xw s i=true:=λi h=>by
  simp_all
 unfold Dm
 cases h:ff (λi=>if xw s i=true then none else some ()) s.size with
 |none=>
  have a:=ab.1 h;have hl:ca (Xd s) 0=some (.inl (s.size:Int)):=kf (λi=>(i:Int)) s.size (s.size:Int)
   (λi hi=>by simp_all) (by grind[Xd])
  rw[hl];exact⟨_,rfl,by grind[vC]⟩
 |some v=>
  obtain⟨k,a,h2,h3⟩:=Pa.1 h;have hl:ca (Xd s) 0=some (.inl (k:Int)):=kf (λi=>(i:Int)) k (k:Int)
   (λi hi=>by grind) (by
    simp_all)
  rw[hl];exact⟨_,rfl,by grind[vC]⟩
noncomputable def YG:List ByteArray:=(vh).getD []
theorem D6{p:Prop} [Decidable p] {b:Bool}:(if p then some true else some b)=some (decide p || b):=by
 grind
theorem uX{a:ByteArray}{l:List ByteArray}:((a::l).any λr=>decide (s=r))=(decide (s=a) || (l.any λr=>decide (s=r))):=rfl
theorem H3:(([]:List ByteArray).any λr=>decide (s=r))=false:=rfl
theorem FU(s:ByteArray):Lf s=some (YG.any λr=>decide (s=r)):=by
 unfold Lf YG vh;simp (config := { maxSteps := 4000000 }) only[Lab,uX,H3,D6,zaa,xae];simp
theorem EU(s:ByteArray):∃b,Lf s=some b:=by
 unfold Lf;simp (config := { maxSteps := 4000000 }) only[D6,zaa];simp
noncomputable def resB(s:ByteArray):Bool:=(Lf s).getD false
theorem VK(s:ByteArray):Lf s=some (resB s):=by
 obtain⟨b,h⟩:=EU s
 grind[resB]
noncomputable def xm(s:ByteArray):Bool:=if h:0<s.size/\s.size<=16 then N6 (s[0].toNat:Int)&&vC s&&!(resB s)else false
theorem PM:s=Gaa #[]↔s.size=0:=by
 constructor
 .rintro rfl;rfl
 .intro h;obtain⟨a⟩:=s;congr 1;exact Array.eq_empty_of_size_eq_zero h
theorem Ls(b:s.size<4611686018427387904):Nb s=some (xm s):=by
 obtain⟨n,hn,a⟩:=bE b;unfold Nb xm;by_cases h0:s.size=0
 .simp_all[PM]
 .have hx:Jx s 0=some (s[0].toNat:Int):=JN (i:=0) (by omega);rw[if_pos (by grind[PM]),hx];simp only[zaa,KA,hn,a,VK]
  grind
theorem Rp(hs:s.size<4611686018427387904):yb s=some (xm s):=by
 unfold yb xm;by_cases h:0<s.size/\s.size<=16
 .have hx:Jx s 0=some (s[0].toNat:Int):=JN (i:=0) (by omega);have a:resB s=YG.any λr=>decide (s=r):=wab ((VK s).symm.trans (FU s));rw[dif_pos h,if_pos (by omega),if_pos (by omega),hx,a];simp only[zaa,JD]
  cases hl:N6 (s[0].toNat:Int)with
  |false=>simp
  |true=>
   have b:ca (Bg s) 0=some (Eb () (ff (λi=>if xw s i=true then none else some false) s.size)):=
    xb (λi=>(i:Int)) _ s.size () (λi hi _=>by
     unfold Bg;rw[if_pos (by omega),JN hi];simp only[zaa,UO,xw,dif_pos hi];rw[wid (by omega) (by omega)];cases oS (s[i].toNat:Int)<;>rfl) (λ_=>by grind[Bg])
   have e:vh=some YG:=by grind[YG,vh]
   have hlen:YG.length=55:=by unfold YG vh;rfl
   have c:ca (Ag s YG) 0=some (Eb () (ff (λi=>if(YG[i]?.any λr=>decide (s=r))=true then some false else none) YG.length)):=
    xb (λi=>(i:Int)) _ YG.length () (λi hi _=>by
     unfold Ag;rw[if_pos (by omega),ya hi,Baa hi];simp only[zaa,rac,decide_eq_true_eq];rw[wid (by omega) (by omega)];by_cases he:s=YG[i]
     .rw[if_pos he.symm,if_pos he];rfl
     .rw[if_neg (λh=>he h.symm),if_neg he];rfl) (λ_=>by grind[Ag])
   simp only[Rab,Eaa,if_false,b,e,zaa];have ha:=Ku (l:=YG) (q:=λr=>decide (s=r)) (g:=λ_=>false);have hw:vC s=(ff (λi=>if xw s i=true then none else some false) s.size).isNone:=by
    unfold vC
    cases d:ff (λi=>if xw s i=true then none else some ()) s.size with
    |none=>
     grind[ab]
    |some v=>
     obtain⟨k,k1,k2,k3⟩:=Pa.1 d
     cases h2:ff (λi=>if xw s i=true then none else some false) s.size with
     |some _=>rfl
     |none=>
      grind[ab]
   rw[hw,←ha]
   cases d:ff (λi=>if xw s i=true then none else some false) s.size with
   |some v=>
    grind[Eb,Pa]
   |none=>
    simp only[Eb,c,zaa,Option.isNone_none,Jab]
    grind[Pa]
 grind
def la(t:GType) (e:List GEnum):Bool:=
 if t.a=6 then decide (0<=t.g)&&decide (t.g<(e.length:Int))else decide (1<=t.a)&&decide (t.a<=5)&&(t.g==0)
noncomputable def vtX(t0:GType) (t1:List GEnum):Option Bool:=
 if t0.a=6 then
  Aaa (α:=Bool) (
   if 0<=t0.g then
    some (decide (t0.g<(t1.length:Int)))
   else
   some false) λa=>
  some a
 else
 Aaa (α:=Bool) (
  if 1<=t0.a then
   if t0.a<=5 then
    some (t0.g==0)
   else
   some false
  else
  some false) λb=>
 some b
theorem vtX_s(t:GType) (e:List GEnum):vtX t e=some (la t e):=by
 grind[vtX,la]
theorem fb(t:GType) (e:List GEnum):Xb t e=some (la t e):=vtX_s t e
theorem Na(t:GType) (e:List GEnum):Jc t e=some (la t e):=by
 rw[←vtX_s]
 grind[Jc,vtX]
theorem BX(t:GType) (e:List GEnum):Cc t e=yn t e:=by
 grind[Cc,yn,Na,fb]
theorem CX(t:GType) (e:List GEnum):∃p,Cc t e=some p:=by
 unfold Cc;rw[Na,zaa]
 cases h:la t e with
 |false=>simp
 |true=>
  simp only[Raa,if_false]
  repeat' split
  all_goals first|exact⟨_,rfl⟩|skip
  have a:t.a=6:=by
   grind[la]
  unfold la at h;rw[if_pos a]at h;simp at h;rw[bh h.1 h.2];simp
noncomputable def WN(t:GType) (e:List GEnum):Int×Int:=(Cc t e).getD (0,0)
theorem Jj(t:GType) (e:List GEnum):Cc t e=some (WN t e):=by
 obtain⟨p,hp⟩:=CX t e
 grind[WN]
theorem aC(t:GType) (e:List GEnum):yn t e=some (WN t e):=by rw[←BX,Jj]
noncomputable def HQ(n:Int) (t:GType) (e:List GEnum):Bool:=decide ((WN t e).1<=n)&&decide (n<=(WN t e).2)
theorem FK(n:Int) (t:GType) (e:List GEnum):Nt n t e=some (HQ n t e):=by
 grind[Nt,HQ,aC]
def D0(r:GDateRange):Bool:=decide (0<=r.n)&&(decide (r.n<=r.To)&&decide (r.To<=109573))
theorem ct(r:GDateRange):xd r=some (D0 r):=by
 grind[xd,D0]
theorem pv(r:GDateRange):nf r=some (D0 r):=by
 grind[nf,D0]
def DA(a b:GRow):Bool:=D0 a.w&&D0 b.w&&decide (max a.w.n b.w.n<min a.w.To b.w.To)&&decide (max a.Lo b.Lo<min a.Hi b.Hi)
theorem RG(a b:GRow):Vp a b=some (DA a b):=by
 unfold Vp Qr DA;simp only[pv,zaa]
 grind
theorem gH(a b:GRow):qq a b=some (DA a b):=by
 unfold qq Wl Tc DA;simp only[ct,zaa];cases D0 a.w<;>cases D0 b.w<;>simp only[Eaa,if_false,if_true,zaa,mac,Rab,qae,Jab,pae]
 all_goals grind
noncomputable def mH(x:GRow) (t:GTable) (e:List GEnum):Bool:=
 !(D0 x.w) || decide (x.w.n=x.w.To) || decide (x.Hi<=x.Lo) || !(HQ x.Lo t.ab e) || !(HQ (aa .i64 (x.Hi-1)) t.ab e) || !(HQ x.N t.Value e)
theorem lM(x:GRow) (t:GTable) (e:List GEnum):Sv x t e=some (mH x t e):=by
 unfold Sv mH;simp only[pv,FK,zaa]
 grind
noncomputable def aH(t:GTable) (e:List GEnum) (i:Nat):Option (Int×Int):=
 match t.Rows[i]? with
 |some x=>if mH x t e=true then some ((i:Int),3)else if((t.Rows.take i).any λy=>DA y x)=true then some ((i:Int),11)else none
 |none=>none
noncomputable def Es(t:GTable) (e:List GEnum):Int×Int:=
 if 64<t.Rows.length then(64,4)else if(la t.ab e&&la t.Value e)=false then(-1,8)else(ff (aH t e) t.Rows.length).getD (0,0)
theorem ZT{l:List GRow}{x:GRow}(hl:l.length<4611686018427387904):∃p,Ub l (λy=>qe y x)=some p/\p.2=l.any λy=>DA y x:=by
 have a:ca (Ib l (λy=>qe y x)) 0=some (Eb () (ff (λi=>if(l[i]?.any λy=>DA y x)=true then some ((i:Int),true)else none) l.length)):=
  xb (λi=>(i:Int)) _ l.length () (λi hi _=>by
   unfold Ib;rw[if_pos (by omega),ya hi,Baa hi]
   grind[qe,aD,gH,sa]) (λ_=>by grind[Ib])
 unfold Ub;rw[a,←Ku (q:=λy=>DA y x) (g:=λi=>((i:Int),true)),zaa]
 cases h:ff (λi=>if(l[i]?.any λy=>DA y x)=true then some ((i:Int),true)else none) l.length with
 |none=>exact⟨_,rfl,rfl⟩
 |some v=>
  obtain⟨k,h1,h2,-⟩:=Pa.1 h;refine⟨_,rfl,?_⟩
  grind
theorem fH(t:GTable) (e:List GEnum):pq t e=some (Es t e):=by
 unfold pq Es;by_cases a:64<t.Rows.length
 .grind
 .rw[if_neg (by omega),if_neg a];simp only[Na,Jj,zaa];have hl:ca (El t (WN t.ab e) (WN t.Value e)) 0=some (Eb () (ff (aH t e) t.Rows.length)):=
   xb (λi=>(i:Int)) _ t.Rows.length () (λi hi _=>by
    unfold El aH;rw[if_pos (by omega),ya hi,Baa hi];simp only[zaa,ct];rw[Hy (by omega),sa (by omega)];obtain⟨p,hp,hp2⟩:=ZT (l:=t.Rows.take i) (x:=t.Rows[i]) (by grind)
    grind[mH,HQ,aD]) (λ_=>by grind[El])
  rw[hl];cases la t.ab e<;>cases la t.Value e<;>simp only[Eaa,if_false,if_true,zaa,mac,Rab,qae,Jab,pae,Raa];cases ff (aH t e) t.Rows.length<;>rfl
theorem QG(t:GTable) (e:List GEnum):Up t e=some (Es t e):=by
 unfold Up Es;by_cases a:64<t.Rows.length
 .grind
 .rw[if_neg (by omega),if_neg a];simp only[fb,zaa];have hl:ca (Nk t e) 0=some (Eb () (ff (aH t e) t.Rows.length)):=
   xb (λi=>(i:Int)) _ t.Rows.length () (λi hi _=>by
    have b:ca (Mk t (i:Int) t.Rows[i]) 0=some (Eb () (ff (λk=>if((t.Rows.take i)[k]?.any λy=>DA y t.Rows[i])=true then some (Ex.ret ((i:Int),11))else none) (t.Rows.take i).length)):=
     xb (λi=>(i:Int)) _ (t.Rows.take i).length () (λk hk _=>by
      have hk':k<i:=by grind
      unfold Mk;rw[if_pos (by omega),ya (by omega),Baa hk]
      grind[aD,RG,sa]) (λ_=>by
       grind[Mk])
    unfold Nk aH;rw[if_pos (by omega),ya hi,Baa hi];simp only[zaa,lM,b];rw[sa (by omega),←Ku (q:=λy=>DA y t.Rows[i]) (g:=λk=>(Ex.ret ((i:Int),11):Ex Int Unit (Int×Int)))];cases mH t.Rows[i] t e
    .simp only[Eaa,if_false]
     cases h:ff (λk=>if((t.Rows.take i)[k]?.any λy=>DA y t.Rows[i])=true then some (Ex.ret ((i:Int),11):Ex Int Unit (Int×Int))else none) (t.Rows.take i).length with
     |none=>rfl
     |some v=>
      obtain⟨k,h1,h2,-⟩:=Pa.1 h;split at h2
      .injection h2 with h2;subst h2;rfl
      simp_all
    .rfl) (λ_=>by grind[Nk])
  rw[hl];cases la t.ab e<;>cases la t.Value e<;>simp only[Eaa,if_false,if_true,zaa,mac,Rab,qae,Jab,pae,Raa];cases ff (aH t e) t.Rows.length<;>rfl
def ub(op:Int):Int:=
 if(1<=op/\op<=9)\/(35<=op/\op<=39)then 0
 else if op=10\/op=25\/(31<=op/\op<=34)then 1
 else if op=26 then 3
 else if 11<=op/\op<=30 then 2 else -1
theorem Mz(h:1<=op/\op<=39):op=1\/op=2\/op=3\/op=4\/op=5\/op=6\/op=7\/op=8\/op=9\/op=10\/op=11\/op=12\/op=13\/op=14\/op=15\/op=16\/op=17\/op=18\/op=19\/op=20\/op=21\/op=22\/op=23\/op=24\/op=25\/op=26\/op=27\/op=28\/op=29\/op=30\/op=31\/op=32\/op=33\/op=34\/op=35\/op=36\/op=37\/op=38\/op=39:=by omega
theorem wC(h:¬(1<=op/\op<=39)):ub op = -1:=by
 grind[ub]
theorem sn(op:Int):Hl op=some (ub op):=by
 by_cases h:1<=op/\op<=39
 .rcases Mz h with h|h|h|h|h|h|h|h|h|h|h|h|h|h|h|h|h|h|h|h|h|h|h|h|h|h|h|h|h|h|h|h|h|h|h|h|h|h|h<;>subst h<;>simp[Hl,ub]
 .rw[wC h];unfold Hl;have hn:∀k:Int,1<=k->k<=39->¬op=k:=λk h1 h2 he=>h (by omega);simp[hn]
theorem qv(op:Int):kn op=some (ub op):=by
 grind[kn,ub]
def Ec(op:Int):Bool:=decide ((1<=op/\op<=8)\/(14<=op/\op<=16)\/(33<=op/\op<=34)\/(36<=op/\op<=39))
theorem Ia(h:1<=op/\op<=39):Ep op=some (Ec op):=by
 rcases Mz h with h|h|h|h|h|h|h|h|h|h|h|h|h|h|h|h|h|h|h|h|h|h|h|h|h|h|h|h|h|h|h|h|h|h|h|h|h|h|h<;>subst h<;>simp[Ep,Ec]
theorem Yb(h:1<=op/\op<=39):Jo op=some (Ec op):=by
 rcases Mz h with h|h|h|h|h|h|h|h|h|h|h|h|h|h|h|h|h|h|h|h|h|h|h|h|h|h|h|h|h|h|h|h|h|h|h|h|h|h|h<;>subst h<;>simp[Jo,Ec]
def Lz(k:Int):Bool:=k==2 || k==3 || k==4
theorem di(k:Int):ah k=some (Lz k):=by
 grind[ah,Lz]
theorem Bx(k:Int):Kk k=some (Lz k):=by
 grind[Kk,Lz]
theorem QA(k:Int):Ml k=some (Lz k || k==5):=by
 grind[Ml,Bx]
noncomputable def Sa(n:GNode) (ops:List GType) (s:GSignature):Option (GType×Int):=
 Aaa (α:=Bool) (if¬n.N=0 then(Ep n.Op).bind λx=>some (!x)else some false) λj=>if j=true then some ((GType.mk 0 0),2)else ta n ops s
def Kb(n:GNode):Prop:=-9223372036854775808<=n.N/\n.N<=9223372036854775807
theorem lP{n:Int}{k:Int}(hk:1<=k) (h:-9223372036854775808<=n/\n<=9223372036854775807):aa .i64 (Naa n k)=Naa n k:=by
 have h1:(Naa n k).natAbs<=n.natAbs:=by
  rw[Rae];exact Nat.div_le_self _ _
 by_cases hn:n = -9223372036854775808
 .by_cases a:k=1
  .subst a;subst hn;rfl
  .have:(Naa n k).natAbs<n.natAbs:=by
    rw[Rae];exact Nat.div_lt_self (by omega) (by omega)
   grind[wid]
 grind[wid]
end Go.Proofs.Dev
set_option maxHeartbeats 1000000
namespace Go.Proofs.Dev
open Go Go.Tm
variable {t a b c t':GType}{k N op f:Int}{n:GNode}{s:GSignature}{α:Type}{x y:α}{l:List α}{u:Bool}{ops:List GType}{i:Nat}{p:List Int}
theorem cG{e:List GEnum}(h:la t e=true) (hk:t.a≠6):t.g=0:=by
 simp_all[la]
theorem aV{e:List GEnum}(h1:1<=k) (h2:k<=5):la ⟨k,0⟩ e=true:=by
 grind[la]
theorem DI{e:List GEnum}:la ⟨1,0⟩ e=true:=aV (by omega) (by omega)
theorem aG{e:List GEnum}:la ⟨2,0⟩ e=true:=aV (by omega) (by omega)
theorem nS{e:List GEnum}:la ⟨3,0⟩ e=true:=aV (by omega) (by omega)
theorem vt_4{e:List GEnum}:la ⟨4,0⟩ e=true:=aV (by omega) (by omega)
theorem vt_5{e:List GEnum}:la ⟨5,0⟩ e=true:=aV (by omega) (by omega)
def eG(n:GNode) (ops:List GType) (s:GSignature):Prop:=
 Sa n ops s=Ta n ops s/\∃r,Ta n ops s=some r/\(r.2=0->la r.1 s.q=true)
theorem r7(hk:1<=k/\k<=5) (hn:n.Op=k):eG n [] s:=by
 have hu:=Ia (op:=n.Op) (by omega);have hm:=Yb (op:=n.Op) (by omega);have j:Ec n.Op=true:=by grind[Ec]
 have hv:la ⟨n.Op,0⟩ s.q=true:=aV (by omega) (by omega);have q:Ta n [] s=some (if(WN ⟨n.Op,0⟩ s.q).1<=n.N/\n.N<=(WN ⟨n.Op,0⟩ s.q).2 then(⟨n.Op,0⟩,0)else(⟨0,0⟩,3)):=by
  unfold Ta gb pc Ll zb;simp only[aC,hm,j,zaa];have l:¬n.Op=6:=by omega
  have m:¬n.Op=7:=by omega
  have o:¬n.Op=8:=by omega
  have p:¬n.Op=9:=by omega
  have a:¬n.Op=33:=by omega
  have b:¬n.Op=34:=by omega
  have c:¬n.Op=35:=by omega
  have d:¬n.Op=36:=by omega
  have e:¬n.Op=37:=by omega
  have f:¬n.Op=38:=by omega
  have g:¬n.Op=39:=by omega
  have i:(if n.Op=1 then some true else if n.Op=2 then some true else if n.Op=3 then some true else if n.Op=4 then some true else some (n.Op==5))=some true:=by
   rcases(by omega:n.Op=1\/n.Op=2\/n.Op=3\/n.Op=4\/n.Op=5)with h|h|h|h|h<;>simp[h]
  simp only[i,l,m,o,p,a,b,c,d,e,f,g,fb,hv,zaa,if_true,if_false,XB]
  grind
 have hI:Sa n [] s=some (if(WN ⟨n.Op,0⟩ s.q).1<=n.N/\n.N<=(WN ⟨n.Op,0⟩ s.q).2 then(⟨n.Op,0⟩,0)else(⟨0,0⟩,3)):=by
  grind[Jd,WN,ta,Sa,Jj]
 refine⟨by simp_all,_,q,?_⟩
 grind
theorem Ez:(if¬N=0 then(some true).bind λx=>some (!x)else some false)=some false:=by simp
theorem CH:(if¬N=0 then(some false).bind λx=>some (!x)else some false)=some (!(N==0)):=by
 grind
theorem Wx{Q:α->Prop}:(∃r,some x=some r/\Q r)=Q x:=by simp
theorem vy(d:α) (h0:0<=N) (h1:N<(l.length:Int)):idx l N=some ((l[N.toNat]?).getD d):=by
 grind[bh]
theorem node_6(hN:Kb ⟨6,N⟩):eG ⟨6,N⟩ [] s:=by
 have w:=lP (n:=N) (k:=16) (by omega) hN;have hu:=Ia (op:=6) (by omega);have hm:=Yb (op:=6) (by omega);have a:Ec 6=true:=rfl;unfold eG Sa ta kr Ta gb pc Ll;simp only[w,hu,hm,a,fb,Ez];by_cases b:0<=N
 .have hd:0<=Naa N 16:=Had b (by omega);by_cases c:Naa N 16<(s.q.length:Int)
  .rw[vy ⟨Ead,[]⟩ hd c];have hv:la ⟨6,Naa N 16⟩ s.q=true:=by grind[la]
   generalize (s.q[(Naa N 16).toNat]?).getD ⟨Ead,[]⟩=m;have e1:¬N<0:=by omega
   have e2:¬(s.q.length:Int)<=Naa N 16:=by omega
   by_cases h2:Taa N 16<(m.r.length:Int)
   .have e3:¬(m.r.length:Int)<=Taa N 16:=by omega
    simp[b,c,h2,hv,e1,e2,e3,Wx,-Prod.exists]
   grind
  grind
 simp_all
theorem node_7:eG ⟨7,N⟩ [] s:=by
 have hu:=Ia (op:=7) (by omega);have hm:=Yb (op:=7) (by omega);have a:Ec 7=true:=rfl;unfold eG Sa ta Wb Ta gb pc Ll;simp only[hu,hm,a,fb,Na,Ez];by_cases b:0<=N
 .have e1:¬N<0:=by omega
  by_cases c:N<(s.u.length:Int)
  .rw[vy ⟨0,0⟩ b c];generalize (s.u[N.toNat]?).getD ⟨0,0⟩=t;obtain⟨e,d⟩:=t;have e2:¬(s.u.length:Int)<=N:=by omega
   cases hv:la ⟨e,d⟩ s.q<;>simp[b,c,hv,e1,e2,Wx,-Prod.exists]
  simp_all
 grind
theorem node_8:eG ⟨8,N⟩ [] s:=by
 have hu:=Ia (op:=8) (by omega);have hm:=Yb (op:=8) (by omega);have a:Ec 8=true:=rfl;unfold eG Sa ta Wb Ta gb pc Ll;simp only[hu,hm,a,fb,Na,Ez];by_cases b:0<=N
 .have e1:¬N<0:=by omega
  by_cases c:N<(s.d.length:Int)
  .rw[vy ⟨0,0⟩ b c];generalize (s.d[N.toNat]?).getD ⟨0,0⟩=t;obtain⟨e,d⟩:=t;have e2:¬(s.d.length:Int)<=N:=by omega
   cases hv:la ⟨e,d⟩ s.q<;>simp[b,c,hv,e1,e2,Wx,-Prod.exists]
  simp_all
 grind
theorem node_9:eG ⟨9,N⟩ [] s:=by
 have hu:=Ia (op:=9) (by omega);have hm:=Yb (op:=9) (by omega);have a:Ec 9=false:=rfl;unfold eG Sa ta Ta gb pc Ll zb;simp only[hu,hm,a,fb,CH];cases N==0<;>simp[vt_5,Wx,-Prod.exists]
theorem node_35:eG ⟨35,N⟩ [] s:=by
 have hu:=Ia (op:=35) (by omega);have hm:=Yb (op:=35) (by omega);have a:Ec 35=false:=rfl;unfold eG Sa ta cg Ta gb pc Ll zb;simp only[hu,hm,a,fb,CH];cases hm:s.av<;>cases N==0<;>simp[hm,aG,Wx,-Prod.exists]
theorem u7(h:36<=op/\op<=39):eG ⟨op,N⟩ [] s:=by
 have hu:=Ia (op:=op) (by omega);have hm:=Yb (op:=op) (by omega);have d:Ec op=true:=by grind[Ec]
 unfold eG Sa ta cg Wb Ta gb pc Ll;simp only[hu,hm,d,fb,Na,di,QA,Ez];cases b:s.av
 .rcases(by omega:op=36\/op=37\/op=38\/op=39)with h|h|h|h<;>subst h<;>simp[b,Wx,-Prod.exists]
 .by_cases a:0<=N
  .have e1:¬N<0:=by omega
   by_cases c:N<(s.ap.length:Int)
   .rw[vy ⟨0,0⟩ a c];generalize (s.ap[N.toNat]?).getD ⟨0,0⟩=t;obtain⟨e,g⟩:=t;have e2:¬(s.ap.length:Int)<=N:=by omega
    cases hv:la ⟨e,g⟩ s.q
    .rcases(by omega:op=36\/op=37\/op=38\/op=39)with h|h|h|h<;>subst h<;>simp[b,a,c,hv,e1,e2,Wx,-Prod.exists]
    .rcases(by omega:op=36\/op=37\/op=38\/op=39)with h|h|h|h<;>subst h<;>simp only[b,a,c,hv,e1,e2,zaa,if_true,if_false,not_true_eq_false,not_false_eq_true,decide_false,decide_true,Eaa,Raa,Jaa,beq_self_eq_true,Oaa]
     .by_cases f:e=2<;>by_cases k3:e=3<;>simp[f,k3,hv,Wx,-Prod.exists]<;>simp_all
     all_goals grind
   .have e2:(s.ap.length:Int)<=N:=by omega
    rcases(by omega:op=36\/op=37\/op=38\/op=39)with h|h|h|h<;>subst h<;>simp[b,a,c,e1,e2,Wx,-Prod.exists]
  .have e1:N<0:=by omega
   rcases(by omega:op=36\/op=37\/op=38\/op=39)with h|h|h|h<;>subst h<;>simp[b,a,e1,Wx,-Prod.exists]
theorem Yc:idx (x::l) 0=some x:=rfl
theorem gF:idx (x::y::l) 1=some y:=rfl
theorem GO{z:α}:idx (x::y::z::l) 2=some z:=rfl
theorem v7(d:op=10\/op=25\/op=31\/op=32) (ha:la a s.q=true):eG ⟨op,N⟩ [a] s:=by
 have hu:=Ia (op:=op) (by omega);have hm:=Yb (op:=op) (by omega);have e:Ec op=false:=by grind[Ec]
 unfold eG Sa ta Ha Ta gb pc Dn zb;simp only[hu,hm,e,CH,di,Bx];obtain⟨c,ae⟩:=a;rcases d with h|h|h|h<;>subst h<;>cases N==0
 .simp
 .cases hn:Lz c<;>simp[Yc,hn,ha,Wx,-Prod.exists]
 .simp
 .by_cases b:c=1
  .subst b;have:=cG ha (by simp)
   simp_all[Yc]
  simp_all[Yc]
 .simp
 .by_cases b:c=5<;>simp[Yc,b,aG,Wx,-Prod.exists]
 .simp
 .by_cases b:c=5<;>simp[Yc,b,aG,Wx,-Prod.exists]
theorem node_33(ha:la a s.q=true):eG ⟨33,N⟩ [a] s:=by
 have hu:=Ia (op:=33) (by omega);have hm:=Yb (op:=33) (by omega);have d:Ec 33=true:=rfl;unfold eG Sa ta aj Ta gb pc Dn;simp only[hu,hm,d,fb,Na,Ez];by_cases b:0<=N
 .have e1:¬N<0:=by omega
  by_cases c:N<(s.Tables.length:Int)
  .obtain⟨t,ht⟩:∃t,idx s.Tables N=some t:=⟨_,bh b c⟩;have e2:¬(s.Tables.length:Int)<=N:=by omega
   cases hk:la t.ab s.q
   .simp[Yc,ht,b,c,e1,e2,hk,Wx,-Prod.exists]
   .cases hv:la t.Value s.q
    .simp[Yc,ht,b,c,e1,e2,hk,hv,Wx,-Prod.exists]
    .by_cases e:a.a=t.ab.a<;>by_cases f:a.g=t.ab.g<;>simp[Yc,ht,b,c,e1,e2,hk,hv,e,f,Wx,-Prod.exists]
  simp_all[Yc]
 .have e1:N<0:=by omega
  have e3:¬N<(s.Tables.length:Int)\/N<(s.Tables.length:Int):=by omega
  simp[Yc,b,e1,Wx,-Prod.exists]
theorem node_34(hN:Kb ⟨34,N⟩) (ha:la a s.q=true):eG ⟨34,N⟩ [a] s:=by
 have hu:=Ia (op:=34) (by omega);have hm:=Yb (op:=34) (by omega);have f:Ec 34=true:=rfl;have w:=lP (n:=N) (k:=8) (by omega) hN;unfold eG Sa ta aj th Ta gb pc Dn zb;simp only[hu,hm,f,fb,Na,Ez,w];by_cases c:0<=N
 .have e1:¬N<0:=by omega
  have hd:0<=Naa N 8:=Had c (by omega);have b:0<=Taa N 8:=iae _ c;have e3:¬Naa N 8<0:=by omega
  by_cases p:Taa N 8<=5
  .by_cases l:Naa N 8<(s.Tables.length:Int)
   .obtain⟨t,ht⟩:∃t,idx s.Tables (Naa N 8)=some t:=⟨_,bh hd l⟩;have e2:¬(s.Tables.length:Int)<=Naa N 8:=by omega
    obtain⟨_,⟨i,h⟩,⟨m,q⟩,_⟩:=t;obtain⟨j,o⟩:=a;simp only[Yc,ht,c,l,e1,e2,e3,b,p,zaa,if_true,if_false,not_true_eq_false,not_false_eq_true,decide_false,decide_true,Eaa,Raa,Jaa,beq_self_eq_true,Oaa,Rab,mac];by_cases d:i=3
    .subst d;by_cases e:h=0
     .subst e;rw[show la ⟨3,0⟩ s.q=true from nS];by_cases g:m=4
      .subst g
       grind[la]
      grind[la]
     simp_all[la]
    .cases la ⟨i,h⟩ s.q<;>cases la ⟨m,q⟩ s.q<;>by_cases ha3:j=3<;>by_cases hak:j=i<;>by_cases hae:o=h<;>simp_all[Wx,-Prod.exists]
   simp_all[Yc]
  simp_all[Yc]
 .have e1:N<0:=by omega
  simp[Yc,c,e1,Wx,-Prod.exists]
theorem node_26(hb:la b s.q=true):eG ⟨26,N⟩ [a,b,c] s:=by
 have hu:=Ia (op:=26) (by omega);have hm:=Yb (op:=26) (by omega);have d:Ec 26=false:=rfl;unfold eG Sa ta Ha Ta gb pc;simp only[hu,hm,d,CH];obtain⟨bk,be⟩:=b;cases N==0
 .simp
 .by_cases e:a.a=1<;>by_cases f:bk=c.a<;>by_cases k3:be=c.g<;>simp[Yc,gF,GO,e,f,k3,Wx,-Prod.exists]
  simp_all
theorem res2(hm:Jo op=some u) (hr:gb ⟨op,N⟩ s=some true) (hf:pc ⟨op,N⟩ s=some true) {ok:Bool}
 (hd:Bn op a b=some (t,ok)) (hu:u=true\/N=0):Ta ⟨op,N⟩ [a,b] s=some (if ok=true then(t,0)else(⟨0,0⟩,8)):=by
 unfold Ta;simp only[hm,hr,hf,Yc,gF];rcases hu with rfl|rfl<;>cases ok<;>simp[hd]
theorem imp2(hm:Ep op=some u) (h1:ta ⟨op,N⟩ [a,b] s=(Ha op [a,b]).bind λx=>if x.2=false then some (⟨0,0⟩,8)else some (x.1,0)) {ok:Bool}
 (hd:Ha op [a,b]=some (t,ok)) (hu:u=true\/N=0):Sa ⟨op,N⟩ [a,b] s=some (if ok=true then(t,0)else(⟨0,0⟩,8)):=by
 unfold Sa
 grind
theorem two_of(hop:(11<=op/\op<=24)\/(27<=op/\op<=30)) {ok:Bool}(f:Ha op [a,b]=some (t',ok)) (g:Bn op a b=some (t,ok)) (ht:ok=true->t'=t/\la t s.q=true) :
 eG ⟨op,N⟩ [a,b] s:=by
 have hu:=Ia (op:=op) (by omega);have hm:=Yb (op:=op) (by omega);have hr:(14<=op/\op<=16)/\gb ⟨op,N⟩ s=some (decide (0<=N)&&decide (N<=5))/\ta ⟨op,N⟩ [a,b] s=(if(decide (0<=N)&&decide (N<=5))=true then(Ha op [a,b]).bind λx=>if x.2=false then some (⟨0,0⟩,8)else some (x.1,0)else some (⟨0,0⟩,3))\/
  ¬(14<=op/\op<=16)/\gb ⟨op,N⟩ s=some true/\ta ⟨op,N⟩ [a,b] s=((Ha op [a,b]).bind λx=>if x.2=false then some (⟨0,0⟩,8)else some (x.1,0)):=by
  clear f g ht hu hm;by_cases h:14<=op/\op<=16
  .refine .inl ⟨h,?_,?_⟩
   .grind[gb]
   .unfold ta th;simp only[XB];rcases(by omega:op=14\/op=15\/op=16)with h|h|h<;>subst h<;>by_cases g1:0<=N<;>by_cases g2:N<=5<;>simp[g1,g2]
  .refine .inr ⟨h,?_,?_⟩
   .unfold gb;rcases(by omega:op=11\/op=12\/op=13\/op=17\/op=18\/op=19\/op=20\/op=21\/op=22\/op=23\/op=24\/op=27\/op=28\/op=29\/op=30)with h|h|h|h|h|h|h|h|h|h|h|h|h|h|h<;>subst h<;>simp
   .unfold ta;rcases(by omega:op=11\/op=12\/op=13\/op=17\/op=18\/op=19\/op=20\/op=21\/op=22\/op=23\/op=24\/op=27\/op=28\/op=29\/op=30)with h|h|h|h|h|h|h|h|h|h|h|h|h|h|h<;>subst h<;>simp
 have hf:pc ⟨op,N⟩ s=some true:=by
  unfold pc;rcases(by omega:op=11\/op=12\/op=13\/op=14\/op=15\/op=16\/op=17\/op=18\/op=19\/op=20\/op=21\/op=22\/op=23\/op=24\/op=27\/op=28\/op=29\/op=30)with h|h|h|h|h|h|h|h|h|h|h|h|h|h|h|h|h|h<;>subst h<;>simp
 have fin:∀(e:Ec op=true\/N=0),gb ⟨op,N⟩ s=some true->ta ⟨op,N⟩ [a,b] s=((Ha op [a,b]).bind λx=>if x.2=false then some (⟨0,0⟩,8)else some (x.1,0))->eG ⟨op,N⟩ [a,b] s:=by
  intro e c h2;unfold eG;rw[res2 hm c hf g e,imp2 hu h2 f e]
  grind
 rcases hr with⟨h,c,h2⟩|⟨h,c,h2⟩
 .have d:Ec op=true:=by grind[Ec]
  by_cases hN:(decide (0<=N)&&decide (N<=5))=true
  .simp_all
  .rw[Pac]at hN;rw[hN]at c;rw[hN,if_neg (by simp)]at h2;unfold eG Sa Ta
   simp_all
 .have d:Ec op=false:=by grind[Ec]
  by_cases hN:N=0
  .simp_all
  .unfold eG Sa Ta
   simp_all
theorem B7(hop:(11<=op/\op<=24)\/(27<=op/\op<=30)) (ha:la a s.q=true):eG ⟨op,N⟩ [a,b] s:=by
 have i:∀k,1<=k->k<=5->a.a=k->a.g=0:=λk g h2 h=>cG ha (by omega);obtain⟨d,f⟩:=a;obtain⟨bk,be⟩:=b;simp only at i;have hr:∃t t' ok,Ha op [⟨d,f⟩,⟨bk,be⟩]=some (t',ok)/\Bn op ⟨d,f⟩ ⟨bk,be⟩=some (t,ok)/\(ok=true->t'=t/\la t s.q=true):=by
  unfold Ha Bn rm Nw zb;simp only[Yc,gF,di,Bx,QA];rcases(by omega:op=11\/op=12\/op=13\/op=14\/op=15\/op=16\/op=17\/op=18\/op=19\/op=20\/op=21\/op=22\/op=23\/op=24\/op=27\/op=28\/op=29\/op=30)with h|h|h|h|h|h|h|h|h|h|h|h|h|h|h|h|h|h<;>subst h
  .by_cases c:d=bk/\f=be
   .cases hn:Lz d<;>simp[c,hn,ha]
    all_goals grind
   .simp[c]
  .by_cases c:d=bk/\f=be
   .cases hn:Lz d<;>simp[c,hn,ha]
    all_goals grind
   .simp[c]
  .by_cases c:bk=2<;>by_cases e:d=2<;>by_cases k3:d=3<;>simp[c,e,k3,aG,nS]
  .by_cases c:bk=4<;>by_cases e:d=3<;>by_cases k3:d=4<;>simp[c,e,k3,vt_4,nS]
  .by_cases c:bk=2<;>by_cases e:d=2<;>by_cases k3:d=3<;>by_cases k4:bk=3<;>simp[c,e,k3,k4,aG,nS,vt_4]
   all_goals simp_all
  .by_cases c:d=3<;>by_cases e:bk=3<;>simp[c,e]
   simp_all
  .by_cases c:d=bk/\f=be
   .cases hn:Lz d<;>by_cases k5:d=5<;>simp[c,hn,k5,ha]
    all_goals grind
   .simp[c]
  .by_cases c:d=bk/\f=be
   .cases hn:Lz d<;>by_cases k5:d=5<;>simp[c,hn,k5,ha]
    all_goals grind
   .simp[c]
  .by_cases c:d=bk<;>by_cases e:f=be<;>simp[c,e,DI]
  .by_cases c:d=bk<;>by_cases e:f=be<;>simp[c,e,DI]
  .by_cases c:d=bk/\f=be
   .cases hn:Lz d<;>by_cases k5:d=5<;>simp[c,hn,k5,DI]
    all_goals grind[DI]
   .simp[c]
  .by_cases c:d=bk/\f=be
   .cases hn:Lz d<;>by_cases k5:d=5<;>simp[c,hn,k5,DI]
    all_goals grind[DI]
   .simp[c]
  .by_cases c:d=1<;>by_cases e:bk=1<;>simp[c,e]
   grind
  .by_cases c:d=1<;>by_cases e:bk=1<;>simp[c,e]
   grind
  .by_cases c:d=5<;>by_cases e:bk=2<;>simp[c,e]
   simp_all
  .by_cases c:d=5<;>by_cases e:bk=2<;>simp[c,e]
   simp_all
  .by_cases c:d=5<;>by_cases e:bk=5<;>simp[c,e,aG]
  .by_cases c:d=5<;>by_cases e:bk=5<;>simp[c,e,aG]
 obtain⟨t,t',ok,g,h2,h3⟩:=hr
 grind[two_of]
theorem node_eq(e:1<=n.Op/\n.Op<=39) (hN:Kb n) (d:(ops.length:Int)=ub n.Op) (hv:∀t∈ops,la t s.q=true):eG n ops s:=by
 obtain⟨op,N⟩:=n;simp only at e d;unfold ub at d;by_cases f:(1<=op/\op<=9)\/(35<=op/\op<=39)
 .rw[if_pos f]at d;obtain rfl:ops=[]:=Uaa (by omega);rcases(by omega:(1<=op/\op<=5)\/op=6\/op=7\/op=8\/op=9\/op=35\/(36<=op/\op<=39))with h|h|h|h|h|h|h
  .exact r7 h rfl
  all_goals grind[node_6,node_7,node_8,node_9,node_35,u7]
 rw[if_neg f]at d;by_cases g:op=10\/op=25\/(31<=op/\op<=34)
 .rw[if_pos g]at d;obtain⟨a,rfl⟩:∃a,ops=[a]:=by
   match ops,d with
   |[a],_=>simp
  have ha:=hv a (by simp);rcases(by omega:(op=10\/op=25\/op=31\/op=32)\/op=33\/op=34)with h|h|h
  all_goals grind[v7,node_33,node_34]
 rw[if_neg g]at d;by_cases h2:op=26
 .rw[if_pos h2]at d;obtain⟨a,b,c,rfl⟩:∃a b c,ops=[a,b,c]:=by
   match ops,d with
   |[a,b,c],_=>simp
  grind[node_26]
 rw[if_neg h2,if_pos (by omega)]at d;obtain⟨a,b,rfl⟩:∃a b,ops=[a,b]:=by
  match ops,d with
  |[a,b],_=>simp
 grind[B7]
def Mc(e:List GNode) (i:Nat):GNode:=(e[i]?).getD ⟨0,0⟩
theorem bm{e:List GNode}(h:i<e.length):e[i]=Mc e i:=by
 grind[Mc]
def Kh(e:List GNode):Nat->List Int×List Int
 |0=>([],[])
 |i+1=>
  let p:=Kh e i
  let a:=(ub (Mc e i).Op).toNat
  let f:=if 0<a then(p.2[p.2.length-a]?).getD 0 else(i:Int)
  (p.1++[f],p.2.take (p.2.length-a)++[f])
theorem QF(e:List GNode):∀i,(Kh e i).1.length=i
 |0=>rfl
 |i+1=>by simp[Kh,QF e i]
def GA(e:List GNode) (i:Nat):Option (List Int×Int×Int):=
 if ub (Mc e i).Op<0 then some ([],(i:Int),2)
 else if((Kh e i).2.length:Int)<ub (Mc e i).Op then some ([],(i:Int),5)
 else if 12<(Kh e (i+1)).2.length then some ([],(i:Int),16)else none
def Pn(e:List GNode):List Int×Int×Int:=
 if 48<e.length then([],0,4)else if e.length=0 then([],0,5)
 else match ff (GA e) e.length with
  |some v=>v
  |none=>if 1<(Kh e e.length).2.length then([],(e.length:Int),4)else((Kh e e.length).1,0,0)
theorem Uu{e:List GNode}(h:∀j,j<i->GA e j=none):(Kh e i).2.length<=12:=by
 cases i with
 |zero=>simp[Kh]
 |succ i=>
  have:=h i (by omega)
  grind[GA]
theorem set_mid{n:Nat}(hp:p.length=i) (h:i<n):(p++Daa (n-i) 0).set i f=p++[f]++Daa (n-(i+1)) 0:=by
 obtain⟨k,hk⟩:∃k,n-i=k+1:=⟨n-i-1,by omega⟩;have hk':n-(i+1)=k:=by omega
 simp_all[List.replicate_succ]
theorem OV{r:List Int}(hp:p.length=i):(p++[f]++r)[i]?=some f:=by
 simp_all
theorem Gq(e:List GNode):tm e=some (Pn e):=by
 unfold tm Pn;by_cases g:48<e.length
 .grind
 rw[if_neg (by omega),if_neg g];by_cases j:e.length=0
 .simp_all
 rw[if_neg (by omega),if_neg j,Zy (by omega) (by omega),zaa];have hl:ca (wk e) (Daa e.length 0,([]:List Int),0)=some (Eb ((Kh e e.length).1,(Kh e e.length).2) (ff (GA e) e.length)):=by
  refine xb (λi=>((Kh e i).1++Daa (e.length-i) 0,(Kh e i).2,(i:Int))) (GA e) e.length _ (λi hi hf=>?_) (λ_=>?_) ?_
  .have hs:=Uu hf;have hl:=QF e i;unfold wk GA;simp only;rw[if_pos (by omega),ya hi,zaa,bm hi,sn,zaa];by_cases ha:ub (Mc e i).Op<0
   .rw[if_pos ha,if_pos ha];rfl
   rw[if_neg ha,if_neg ha];by_cases hb:((Kh e i).2.length:Int)<ub (Mc e i).Op
   .rw[if_pos hb,if_pos hb];rfl
   rw[if_neg hb,if_neg hb];obtain⟨a,c⟩:∃a:Nat,ub (Mc e i).Op=a:=⟨(ub (Mc e i).Op).toNat,by omega⟩;have h:Kh e (i+1)=((Kh e i).1++[if 0<a then((Kh e i).2[(Kh e i).2.length-a]?).getD 0 else(i:Int)],(Kh e i).2.take ((Kh e i).2.length-a)++[if 0<a then((Kh e i).2[(Kh e i).2.length-a]?).getD 0 else(i:Int)]):=by
    grind[Kh]
   have f:aa .i64 (((Kh e i).2.length:Int)-(a:Int))=(((Kh e i).2.length-a:Nat):Int):=by
    grind[wid]
   rw[c,h,f];generalize hS:(Kh e i).2=sk at *;generalize (Kh e i).1=st at *;rw[c]at hb;rw[ya (i:=i) (by grind),zaa,aB (by grind),zaa,set_mid hl hi,Hy (by omega)];by_cases b:0<a
   .have hk:sk.length-a<sk.length:=by omega
    rw[if_pos (by omega),if_pos b,ya hk,zaa,ya (i:=i) (by simp_all),zaa,aB (by simp_all),zaa];have d:(st++[(i:Int)]++Daa (e.length-(i+1)) 0).set i sk[sk.length-a]=st++[sk[sk.length-a]]++Daa (e.length-(i+1)) 0:=by
     simp_all
    rw[d,zaa,zaa,Baa hk,Lab,u6,OV hl,zaa];rw[uf (by grind),zaa];by_cases hd:12<(sk.take (sk.length-a)++[sk[sk.length-a]]).length
    .grind
    .rw[if_neg (by omega),if_neg hd,sa (by omega)];rfl
   .rw[if_neg (by omega),if_neg b,zaa,zaa,u6,OV hl,zaa];rw[uf (by grind),zaa];by_cases hd:12<(sk.take (sk.length-a)++[(i:Int)]).length
    .rw[if_pos (by omega),if_pos hd];rfl
    .rw[if_neg (by omega),if_neg hd,sa (by omega)];rfl
  all_goals grind[wk,Kh]
 grind[Eb]
theorem Rt(e:List GNode):ji e=some (Pn e):=by
 unfold ji Pn;by_cases f:48<e.length
 .grind
 rw[if_neg (by omega),if_neg f];by_cases j:e.length=0
 .simp_all
 rw[if_neg (by omega),if_neg j];have hl:ca (nj e) (([]:List Int),([]:List Int),0)=some (Eb ((Kh e e.length).1,(Kh e e.length).2) (ff (GA e) e.length)):=by
  refine xb (λi=>((Kh e i).1,(Kh e i).2,(i:Int))) (GA e) e.length _ (λi hi hf=>?_) (λ_=>?_)
  .have hs:=Uu hf;have hl:=QF e i;unfold nj GA;simp only;rw[if_pos (by omega),ya hi,zaa,bm hi,qv,zaa];by_cases ha:ub (Mc e i).Op<0
   .rw[if_pos ha,if_pos ha];rfl
   rw[if_neg ha,if_neg ha];by_cases hb:((Kh e i).2.length:Int)<ub (Mc e i).Op
   .rw[if_pos hb,if_pos hb];rfl
   rw[if_neg hb,if_neg hb];obtain⟨a,c⟩:∃a:Nat,ub (Mc e i).Op=a:=⟨(ub (Mc e i).Op).toNat,by omega⟩;have h:Kh e (i+1)=((Kh e i).1++[if 0<a then((Kh e i).2[(Kh e i).2.length-a]?).getD 0 else(i:Int)],(Kh e i).2.take ((Kh e i).2.length-a)++[if 0<a then((Kh e i).2[(Kh e i).2.length-a]?).getD 0 else(i:Int)]):=by
    grind[Kh]
   have d:aa .i64 (((Kh e i).2.length:Int)-(a:Int))=(((Kh e i).2.length-a:Nat):Int):=by
    grind[wid]
   rw[c,h,d];generalize hS:(Kh e i).2=sk at *;generalize (Kh e i).1=st at *;rw[c]at hb;by_cases b:0<a
   .have hk:sk.length-a<sk.length:=by omega
    rw[if_pos (by omega),if_pos b,ya hk,zaa,Hy (by omega),zaa,zaa,Baa hk,Lab];simp only;rw[uf (by grind),zaa,uf (by grind),zaa];by_cases hd:12<(sk.take (sk.length-a)++[sk[sk.length-a]]).length
    .grind
    .rw[if_neg (by omega),if_neg hd,sa (by omega)];rfl
   .have g:a=0:=by omega
    subst g;rw[if_neg (by omega),if_neg b,zaa];simp only[Nat.sub_zero,tac];rw[uf (by grind),zaa,uf (by grind),zaa];by_cases hd:12<(sk++[(i:Int)]).length
    .rw[if_pos (by omega),if_pos hd];rfl
    .rw[if_neg (by omega),if_neg hd,sa (by omega)];rfl
  grind[nj]
 grind[Eb]
def fG(n:GNode) (ops:List GType) (s:GSignature):Prop:=∃r,Sa n ops s=some r/\(r.2=0->la r.1 s.q=true)
theorem k7(hk:1<=k/\k<=5) (hn:n.Op=k):fG n [] s:=by
 have hu:=Ia (op:=n.Op) (by omega);have hus:Ec n.Op=true:=by grind[Ec]
 have hv:la ⟨n.Op,0⟩ s.q=true:=aV (by omega) (by omega);have a:Sa n [] s=some (if(WN ⟨n.Op,0⟩ s.q).1<=n.N/\n.N<=(WN ⟨n.Op,0⟩ s.q).2 then(⟨n.Op,0⟩,0)else(⟨0,0⟩,3)):=by
  grind[Jd,WN,ta,Sa,Jj]
 refine⟨_,a,?_⟩
 grind
theorem nod1_6(hN:Kb ⟨6,N⟩):fG ⟨6,N⟩ [] s:=by
 have w:=lP (n:=N) (k:=16) (by omega) hN;have hu:=Ia (op:=6) (by omega);have c:Ec 6=true:=rfl;unfold fG Sa ta kr;simp only[w,hu,c,Ez];by_cases a:0<=N
 .have hd:0<=Naa N 16:=Had a (by omega);by_cases b:Naa N 16<(s.q.length:Int)
  .rw[vy ⟨Ead,[]⟩ hd b];have hv:la ⟨6,Naa N 16⟩ s.q=true:=by grind[la]
   generalize (s.q[(Naa N 16).toNat]?).getD ⟨Ead,[]⟩=m;have e1:¬N<0:=by omega
   have e2:¬(s.q.length:Int)<=Naa N 16:=by omega
   by_cases h2:Taa N 16<(m.r.length:Int)
   .have e3:¬(m.r.length:Int)<=Taa N 16:=by omega
    simp[a,b,h2,hv,e1,e2,e3,Wx,-Prod.exists]
   .have e3:(m.r.length:Int)<=Taa N 16:=by omega
    simp[a,b,h2,hv,e1,e2,e3,Wx,-Prod.exists]
  .have e1:¬N<0:=by omega
   have e2:(s.q.length:Int)<=Naa N 16:=by omega
   simp[a,b,e1,e2,Wx,-Prod.exists]
 simp_all
theorem nod1_7:fG ⟨7,N⟩ [] s:=by
 have hu:=Ia (op:=7) (by omega);have a:Ec 7=true:=rfl;unfold fG Sa ta Wb;simp only[hu,a,Na,Ez];by_cases b:0<=N
 .have e1:¬N<0:=by omega
  by_cases c:N<(s.u.length:Int)
  .rw[vy ⟨0,0⟩ b c];generalize (s.u[N.toNat]?).getD ⟨0,0⟩=t;obtain⟨e,d⟩:=t;have e2:¬(s.u.length:Int)<=N:=by omega
   cases hv:la ⟨e,d⟩ s.q<;>simp[b,c,hv,e1,e2,Wx,-Prod.exists]
  simp_all
 simp_all
theorem nod1_8:fG ⟨8,N⟩ [] s:=by
 have hu:=Ia (op:=8) (by omega);have a:Ec 8=true:=rfl;unfold fG Sa ta Wb;simp only[hu,a,Na,Ez];by_cases b:0<=N
 .have e1:¬N<0:=by omega
  by_cases c:N<(s.d.length:Int)
  .rw[vy ⟨0,0⟩ b c];generalize (s.d[N.toNat]?).getD ⟨0,0⟩=t;obtain⟨e,d⟩:=t;have e2:¬(s.d.length:Int)<=N:=by omega
   cases hv:la ⟨e,d⟩ s.q<;>simp[b,c,hv,e1,e2,Wx,-Prod.exists]
  simp_all
 simp_all
theorem nod1_9:fG ⟨9,N⟩ [] s:=by
 have hu:=Ia (op:=9) (by omega);have a:Ec 9=false:=rfl;unfold fG Sa ta;simp only[hu,a,CH];cases N==0<;>simp[vt_5,Wx,-Prod.exists]
theorem nod1_35:fG ⟨35,N⟩ [] s:=by
 have hu:=Ia (op:=35) (by omega);have a:Ec 35=false:=rfl;unfold fG Sa ta cg;simp only[hu,a,CH];cases hm:s.av<;>cases N==0<;>simp[aG,Wx,-Prod.exists]
theorem l7(h:36<=op/\op<=39):fG ⟨op,N⟩ [] s:=by
 have hu:=Ia (op:=op) (by omega);have e:Ec op=true:=by grind[Ec]
 unfold fG Sa ta cg Wb;simp only[hu,e,Na,di,Ez];cases c:s.av
 .rcases(by omega:op=36\/op=37\/op=38\/op=39)with h|h|h|h<;>subst h<;>simp[c,Wx,-Prod.exists]
 .by_cases b:0<=N
  .have e1:¬N<0:=by omega
   by_cases d:N<(s.ap.length:Int)
   .rw[vy ⟨0,0⟩ b d];generalize (s.ap[N.toNat]?).getD ⟨0,0⟩=t;obtain⟨a,i⟩:=t;have e2:¬(s.ap.length:Int)<=N:=by omega
    cases hv:la ⟨a,i⟩ s.q
    .rcases(by omega:op=36\/op=37\/op=38\/op=39)with h|h|h|h<;>subst h<;>simp[c,b,d,hv,e1,e2,Wx,-Prod.exists]
    .rcases(by omega:op=36\/op=37\/op=38\/op=39)with h|h|h|h<;>subst h<;>simp only[c,b,d,hv,e1,e2,zaa,if_true,if_false,not_true_eq_false,not_false_eq_true,decide_false,decide_true,Eaa,Raa,Jaa,beq_self_eq_true,Oaa]
     .by_cases g:a=2<;>by_cases k3:a=3<;>simp[g,k3,hv,Wx,-Prod.exists]<;>simp_all
     .by_cases f:a=1<;>simp[f,hv,Wx,-Prod.exists]<;>simp_all
     .by_cases f:a=1<;>simp[f,hv,Wx,-Prod.exists]<;>simp_all
     .cases Lz a<;>by_cases k5:a=5<;>simp[k5,hv,Wx,-Prod.exists]<;>simp_all
   .have e2:(s.ap.length:Int)<=N:=by omega
    rcases(by omega:op=36\/op=37\/op=38\/op=39)with h|h|h|h<;>subst h<;>simp[c,b,d,e1,e2,Wx,-Prod.exists]
  .have e1:N<0:=by omega
   rcases(by omega:op=36\/op=37\/op=38\/op=39)with h|h|h|h<;>subst h<;>simp[c,b,e1,Wx,-Prod.exists]
theorem n7(d:op=10\/op=25\/op=31\/op=32) (ha:la a s.q=true):fG ⟨op,N⟩ [a] s:=by
 have hu:=Ia (op:=op) (by omega);have e:Ec op=false:=by grind[Ec]
 unfold fG Sa ta Ha;simp only[hu,e,CH,di];obtain⟨c,ae⟩:=a;rcases d with h|h|h|h<;>subst h<;>cases N==0
 .simp
 .cases hn:Lz c<;>simp[Yc,hn,ha,Wx,-Prod.exists]
 .simp
 .by_cases b:c=1
  .subst b;have:=cG ha (by simp)
   simp_all[Yc]
  simp_all[Yc]
 .simp
 .by_cases b:c=5<;>simp[Yc,b,aG,Wx,-Prod.exists]
 .simp
 .by_cases b:c=5<;>simp[Yc,b,aG,Wx,-Prod.exists]
theorem nod1_33(ha:la a s.q=true):fG ⟨33,N⟩ [a] s:=by
 have hu:=Ia (op:=33) (by omega);have d:Ec 33=true:=rfl;unfold fG Sa ta aj;simp only[hu,d,Na,Ez];by_cases b:0<=N
 .have e1:¬N<0:=by omega
  by_cases c:N<(s.Tables.length:Int)
  .obtain⟨t,ht⟩:∃t,idx s.Tables N=some t:=⟨_,bh b c⟩;have e2:¬(s.Tables.length:Int)<=N:=by omega
   cases hk:la t.ab s.q
   .simp[Yc,ht,b,c,e1,e2,hk,Wx,-Prod.exists]
   .cases hv:la t.Value s.q
    .simp[Yc,ht,b,c,e1,e2,hk,hv,Wx,-Prod.exists]
    .by_cases e:a.a=t.ab.a<;>by_cases f:a.g=t.ab.g<;>simp[Yc,ht,b,c,e1,e2,hk,hv,e,f,Wx,-Prod.exists]
  simp_all[Yc]
 .have e1:N<0:=by omega
  have e3:¬N<(s.Tables.length:Int)\/N<(s.Tables.length:Int):=by omega
  simp[Yc,b,e1,Wx,-Prod.exists]
theorem nod1_34(hN:Kb ⟨34,N⟩) (ha:la a s.q=true):fG ⟨34,N⟩ [a] s:=by
 have hu:=Ia (op:=34) (by omega);have j:Ec 34=true:=rfl;have w:=lP (n:=N) (k:=8) (by omega) hN;unfold fG Sa ta aj th;simp only[hu,j,Na,Ez,w];by_cases g:0<=N
 .have e1:¬N<0:=by omega
  have hd:0<=Naa N 8:=Had g (by omega);have d:0<=Taa N 8:=iae _ g;have e3:¬Naa N 8<0:=by omega
  by_cases v:Taa N 8<=5
  .by_cases u:Naa N 8<(s.Tables.length:Int)
   .obtain⟨t,ht⟩:∃t,idx s.Tables (Naa N 8)=some t:=⟨_,bh hd u⟩;have e2:¬(s.Tables.length:Int)<=Naa N 8:=by omega
    obtain⟨_,⟨o,m⟩,⟨q,p⟩,_⟩:=t;obtain⟨f,r⟩:=a;simp only[Yc,ht,g,u,e1,e2,e3,d,v,zaa,if_true,if_false,not_true_eq_false,not_false_eq_true,decide_false,decide_true,Eaa,Raa,Jaa,beq_self_eq_true,Oaa,Rab,mac];by_cases h:o=3
    .subst h;by_cases i:m=0
     .subst i;rw[show la ⟨3,0⟩ s.q=true from nS];by_cases e:q=4
      .subst e;by_cases l:p=0
       .subst l;rw[show la ⟨4,0⟩ s.q=true from vt_4];by_cases b:f=3
        .subst b;have:=cG ha (by simp)
         simp_all
        simp_all
       simp_all[la]
      .cases la ⟨q,p⟩ s.q<;>by_cases b:f=3<;>by_cases c:r=0<;>simp[b,c,e,Wx,-Prod.exists]
     simp_all[la]
    .cases la ⟨o,m⟩ s.q<;>cases la ⟨q,p⟩ s.q<;>by_cases b:f=3<;>by_cases hak:f=o<;>by_cases c:r=m<;>simp_all[Wx,-Prod.exists]
   simp_all[Yc]
  simp_all[Yc]
 simp_all[Yc]
theorem nod1_26(hb:la b s.q=true):fG ⟨26,N⟩ [a,b,c] s:=by
 have hu:=Ia (op:=26) (by omega);have d:Ec 26=false:=rfl;unfold fG Sa ta Ha;simp only[hu,d,CH];obtain⟨bk,be⟩:=b;cases N==0
 .simp
 .by_cases e:a.a=1<;>by_cases f:bk=c.a<;>by_cases k3:be=c.g<;>simp[Yc,gF,GO,e,f,k3,Wx,-Prod.exists]
  simp_all
theorem two_of1(hop:(11<=op/\op<=24)\/(27<=op/\op<=30)) {ok:Bool}(d:Ha op [a,b]=some (t',ok)) (ht:ok=true->la t' s.q=true) :
 fG ⟨op,N⟩ [a,b] s:=by
 have hu:=Ia (op:=op) (by omega);have hr:(14<=op/\op<=16)/\ta ⟨op,N⟩ [a,b] s=(if(decide (0<=N)&&decide (N<=5))=true then(Ha op [a,b]).bind λx=>if x.2=false then some (⟨0,0⟩,8)else some (x.1,0)else some (⟨0,0⟩,3))\/
  ¬(14<=op/\op<=16)/\ta ⟨op,N⟩ [a,b] s=((Ha op [a,b]).bind λx=>if x.2=false then some (⟨0,0⟩,8)else some (x.1,0)):=by
  clear d ht hu;by_cases h:14<=op/\op<=16
  .refine .inl ⟨h,?_⟩
   .unfold ta th;simp only[XB];rcases(by omega:op=14\/op=15\/op=16)with h|h|h<;>subst h<;>by_cases g1:0<=N<;>by_cases g2:N<=5<;>simp[g1,g2]
  .refine .inr ⟨h,?_⟩
   .unfold ta;rcases(by omega:op=11\/op=12\/op=13\/op=17\/op=18\/op=19\/op=20\/op=21\/op=22\/op=23\/op=24\/op=27\/op=28\/op=29\/op=30)with h|h|h|h|h|h|h|h|h|h|h|h|h|h|h<;>subst h<;>simp
 have fin:∀(e:Ec op=true\/N=0),ta ⟨op,N⟩ [a,b] s=((Ha op [a,b]).bind λx=>if x.2=false then some (⟨0,0⟩,8)else some (x.1,0))->fG ⟨op,N⟩ [a,b] s:=by
  intro e h2;unfold fG;rw[imp2 hu h2 d e]
  grind
 rcases hr with⟨h,h2⟩|⟨h,h2⟩
 .have c:Ec op=true:=by grind[Ec]
  by_cases hN:(decide (0<=N)&&decide (N<=5))=true
  .simp_all
  .rw[Pac]at hN;rw[hN,if_neg (by simp)]at h2;unfold fG Sa
   simp_all
 .have c:Ec op=false:=by grind[Ec]
  by_cases hN:N=0
  .simp_all
  .unfold fG Sa
   simp_all
theorem o7(hop:(11<=op/\op<=24)\/(27<=op/\op<=30)) (ha:la a s.q=true):fG ⟨op,N⟩ [a,b] s:=by
 have i:∀k,1<=k->k<=5->a.a=k->a.g=0:=λk g h2 h=>cG ha (by omega);obtain⟨d,f⟩:=a;obtain⟨bk,be⟩:=b;simp only at i;have hr:∃t' ok,Ha op [⟨d,f⟩,⟨bk,be⟩]=some (t',ok)/\(ok=true->la t' s.q=true):=by
  unfold Ha rm;simp only[Yc,gF,di];rcases(by omega:op=11\/op=12\/op=13\/op=14\/op=15\/op=16\/op=17\/op=18\/op=19\/op=20\/op=21\/op=22\/op=23\/op=24\/op=27\/op=28\/op=29\/op=30)with h|h|h|h|h|h|h|h|h|h|h|h|h|h|h|h|h|h<;>subst h
  .by_cases c:d=bk/\f=be
   .cases hn:Lz d<;>simp[c,hn,ha]
    all_goals grind
   .simp[c]
  .by_cases c:d=bk/\f=be
   .cases hn:Lz d<;>simp[c,hn,ha]
    all_goals grind
   .simp[c]
  .by_cases c:bk=2<;>by_cases e:d=2<;>by_cases k3:d=3<;>simp[c,e,k3,aG,nS]
  .by_cases c:bk=4<;>by_cases e:d=3<;>by_cases k3:d=4<;>simp[c,e,k3,vt_4,nS]
  .by_cases c:bk=2<;>by_cases e:d=2<;>by_cases k3:d=3<;>by_cases k4:bk=3<;>simp[c,e,k3,k4,aG,nS,vt_4]
   all_goals simp_all
  .by_cases c:d=3<;>by_cases e:bk=3<;>simp[c,e]
   simp_all
  .by_cases c:d=bk/\f=be
   .cases hn:Lz d<;>by_cases k5:d=5<;>simp[c,hn,k5,ha]
    all_goals grind
   .simp[c]
  .by_cases c:d=bk/\f=be
   .cases hn:Lz d<;>by_cases k5:d=5<;>simp[c,hn,k5,ha]
    all_goals grind
   .simp[c]
  .by_cases c:d=bk<;>by_cases e:f=be<;>simp[c,e,DI]
  .by_cases c:d=bk<;>by_cases e:f=be<;>simp[c,e,DI]
  .by_cases c:d=bk/\f=be
   .cases hn:Lz d<;>by_cases k5:d=5<;>simp[c,hn,k5,DI]
    all_goals grind[DI]
   .simp[c]
  .by_cases c:d=bk/\f=be
   .cases hn:Lz d<;>by_cases k5:d=5<;>simp[c,hn,k5,DI]
    all_goals grind[DI]
   .simp[c]
  .by_cases c:d=1<;>by_cases e:bk=1<;>simp[c,e]
   grind
  .by_cases c:d=1<;>by_cases e:bk=1<;>simp[c,e]
   grind
  .by_cases c:d=5<;>by_cases e:bk=2<;>simp[c,e]
   simp_all
  .by_cases c:d=5<;>by_cases e:bk=2<;>simp[c,e]
   simp_all
  .by_cases c:d=5<;>by_cases e:bk=5<;>simp[c,e,aG]
  .by_cases c:d=5<;>by_cases e:bk=5<;>simp[c,e,aG]
 obtain⟨t',ok,g,h3⟩:=hr
 grind[two_of1]
theorem qW(e:1<=n.Op/\n.Op<=39) (hN:Kb n) (d:(ops.length:Int)=ub n.Op) (hv:∀t∈ops,la t s.q=true):fG n ops s:=by
 obtain⟨op,N⟩:=n;simp only at e d;unfold ub at d;by_cases f:(1<=op/\op<=9)\/(35<=op/\op<=39)
 .rw[if_pos f]at d;obtain rfl:ops=[]:=Uaa (by omega);rcases(by omega:(1<=op/\op<=5)\/op=6\/op=7\/op=8\/op=9\/op=35\/(36<=op/\op<=39))with h|h|h|h|h|h|h
  .exact k7 h rfl
  all_goals grind[nod1_6,nod1_7,nod1_8,nod1_9,nod1_35,l7]
 rw[if_neg f]at d;by_cases g:op=10\/op=25\/(31<=op/\op<=34)
 .rw[if_pos g]at d;obtain⟨a,rfl⟩:∃a,ops=[a]:=by
   match ops,d with
   |[a],_=>simp
  have ha:=hv a (by simp);rcases(by omega:(op=10\/op=25\/op=31\/op=32)\/op=33\/op=34)with h|h|h
  all_goals grind[n7,nod1_33,nod1_34]
 rw[if_neg g]at d;by_cases h2:op=26
 .rw[if_pos h2]at d;obtain⟨a,b,c,rfl⟩:∃a b c,ops=[a,b,c]:=by
   match ops,d with
   |[a,b,c],_=>simp
  grind[nod1_26]
 rw[if_neg h2,if_pos (by omega)]at d;obtain⟨a,b,rfl⟩:∃a b,ops=[a,b]:=by
  match ops,d with
  |[a,b],_=>simp
 grind[o7]
def Fi(e:List GNode) (i:Nat):Nat:=(ub (Mc e i).Op).toNat
noncomputable def MD(e:List GNode) (s:GSignature) (st:List GType) (i:Nat):GType×Int:=(Sa (Mc e i) (st.drop (st.length-Fi e i)) s).getD (⟨0,0⟩,0)
noncomputable def Qx(e:List GNode) (s:GSignature):Nat->List GType
 |0=>[]
 |i+1=>(Qx e s i).take ((Qx e s i).length-Fi e i)++[(MD e s (Qx e s i) i).1]
noncomputable def rD(e:List GNode) (s:GSignature) (i:Nat):Option (GType×Int×Int):=
 if(MD e s (Qx e s i) i).2=0 then none else some (⟨0,0⟩,(i:Int),(MD e s (Qx e s i) i).2)
noncomputable def Ky(e:List GNode) (s:GSignature):GType×Int×Int:=
 if(Pn e).2.2=0 then(match ff (rD e s) e.length with|some v=>v|none=>((Qx e s e.length)[0]?.getD ⟨0,0⟩,0,0))else(⟨0,0⟩,(Pn e).2.1,(Pn e).2.2)
structure Wst (e:List GNode):Prop where
 pos:0<e.length
 le:e.length<=48
 err:∀i,i<e.length->GA e i=none
 one:(Kh e e.length).2.length<=1
variable {e:List GNode}
theorem nH(h:(Pn e).2.2=0):Wst e:=by
 unfold Pn at h;split at h
 .grind
 split at h
 .grind
 rename_i h48 h0;split at h
 .grind[GA,Pa]
 .rename_i hn;split at h
  .grind
  .exact⟨by omega,by omega,ab.1 hn,by omega⟩
theorem Wst.ar(h:Wst e) (hi:i<e.length):0<=ub (Mc e i).Op/\Fi e i<=(Kh e i).2.length/\(1<=(Mc e i).Op/\(Mc e i).Op<=39):=by
 have:=h.err i hi
 grind[GA,Fi,wC]
theorem pL:(Kh e (i+1)).2.length=(Kh e i).2.length-Fi e i+1:=by
 simp[Kh,Fi]
theorem Z6(hN:∀n∈e,Kb n) (hi:i<e.length):Kb (Mc e i):=by
 rw[←bm hi];simp_all
theorem AA{e:List GNode}{s:GSignature}(h:Wst e) (hN:∀n∈e,Kb n):∀i,i<=e.length->(∀j,j<i->rD e s j=none)->(Qx e s i).length=(Kh e i).2.length/\∀t∈Qx e s i,la t s.q=true
 |0,_,_=>by simp[Qx,Kh]
 |i+1,hi,ht=>by
  obtain⟨h1,h2⟩:=AA h hN i (by omega) λj hj=>ht j (by omega);obtain⟨a1,a2,a3⟩:=h.ar (i:=i) (by omega);refine⟨by grind[Qx,pL],?_⟩;intro t hm;simp only[Qx,List.mem_append,Nab]at hm;rcases hm with hm|rfl
  .grind
  .obtain⟨r,hr,hv⟩:=qW (n:=Mc e i) (ops:=(Qx e s i).drop ((Qx e s i).length-Fi e i)) (s:=s) a3 (Z6 hN (by omega)) (by grind[Fi]) (λt ht=>h2 t (iad ht));have hz:=ht i (by omega)
   grind[rD,MD]
theorem rK(h:Wst e) (hN:∀n∈e,Kb n) (hi:i<e.length) (ht:∀j,j<i->rD e s j=none) :
 Sa (Mc e i) ((Qx e s i).drop ((Qx e s i).length-Fi e i)) s=some (MD e s (Qx e s i) i):=by
 obtain⟨h1,h2⟩:=AA h hN i (by omega) ht;obtain⟨a1,a2,a3⟩:=h.ar hi;obtain⟨r,hr,hv⟩:=qW (n:=Mc e i) (ops:=(Qx e s i).drop ((Qx e s i).length-Fi e i)) (s:=s) a3 (Z6 hN hi) (by grind[Fi]) (λt ht=>h2 t (iad ht))
 grind[MD]
theorem node_at(h:Wst e) (hN:∀n∈e,Kb n) (hi:i<e.length) (ht:∀j,j<i->rD e s j=none) :
 Sa (Mc e i) ((Qx e s i).drop ((Qx e s i).length-Fi e i)) s=some (MD e s (Qx e s i) i)/\Ta (Mc e i) ((Qx e s i).drop ((Qx e s i).length-Fi e i)) s=some (MD e s (Qx e s i) i):=by
 obtain⟨h1,h2⟩:=AA h hN i (by omega) ht;obtain⟨a1,a2,a3⟩:=h.ar hi;obtain⟨e1,r,hr,hv⟩:=node_eq (n:=Mc e i) (ops:=(Qx e s i).drop ((Qx e s i).length-Fi e i)) (s:=s) a3 (Z6 hN hi) (by grind[Fi]) (λt ht=>h2 t (iad ht))
 grind[rK]
theorem GK(hN:∀n∈e,Kb n) (s:GSignature):Pt e s=some (Ky e s):=by
 unfold Pt Ky;rw[Rt,zaa];by_cases c:(Pn e).2.2=0
 .rw[if_neg (by omega),if_pos c];have hw:=nH c;have hl:ca (bo e s) (([]:List GType),0)=some (Eb (Qx e s e.length) (ff (rD e s) e.length)):=by
   refine xb (λi=>(Qx e s i,(i:Int))) (rD e s) e.length _ (λi hi ht=>?_) (λ_=>?_)
   .obtain⟨n1,f⟩:=node_at hw hN hi ht;obtain⟨d,h2⟩:=AA hw hN i (by omega) ht;obtain⟨a1,a2,a3⟩:=hw.ar hi;have hle:=hw.le;have h12:=Uu (e:=e) (i:=i) λj hj=>hw.err j (by omega);unfold bo rD;simp only;have a:aa .i64 (((Qx e s i).length:Int)-ub (Mc e i).Op)=(((Qx e s i).length-Fi e i:Nat):Int):=by
     grind[Fi,wid]
    rw[if_pos (by omega),ya hi,zaa,bm hi,qv,zaa,a,caa (by omega),zaa,f,zaa];by_cases b:(MD e s (Qx e s i) i).2=0
    .rw[if_neg (by omega),if_pos b,Hy (by omega),zaa,uf (by grind),zaa,sa (by omega)];rfl
    .rw[if_pos b,if_neg b];rfl
   grind[bo]
  rw[hl]
  cases hf:ff (rD e s) e.length with
  |some v=>rfl
  |none=>
   obtain⟨d,h2⟩:=AA (s:=s) hw hN e.length (by omega) (ab.1 hf);have:0<(Qx e s e.length).length:=by
    rw[d];obtain⟨k,hk⟩:∃k,e.length=k+1:=⟨e.length-1,by have:=hw.pos;omega⟩
    grind[pL]
   simp only[Eb,zaa];rw[show(0:Int)=((0:Nat):Int)from rfl,ya this,zaa,Baa this];rfl
 simp_all
theorem ZL(hN:∀n∈e,Kb n) (s:GSignature):Ev e s=some (Ky e s):=by
 unfold Ev Ky;rw[Gq,zaa];by_cases f:(Pn e).2.2=0
 .rw[if_neg (by omega),if_pos f];have hw:=nH f;have hl:ca (Dp e s) (([]:List GType),0)=some (Eb (Qx e s e.length) (ff (rD e s) e.length)):=by
   refine xb (λi=>(Qx e s i,(i:Int))) (rD e s) e.length _ (λi hi ht=>?_) (λ_=>?_)
   .have a:=rK hw hN hi ht;obtain⟨g,h2⟩:=AA hw hN i (by omega) ht;obtain⟨a1,a2,a3⟩:=hw.ar hi;have hle:=hw.le;have h12:=Uu (e:=e) (i:=i) λj hj=>hw.err j (by omega);unfold Dp rD;simp only;have b:aa .i64 (((Qx e s i).length:Int)-ub (Mc e i).Op)=(((Qx e s i).length-Fi e i:Nat):Int):=by
     grind[Fi,wid]
    rw[if_pos (by omega),ya hi,zaa,bm hi];unfold Sa at a;rw[Ia a3]at a⊢;have hj:(if¬(Mc e i).N=0 then(some (Ec (Mc e i).Op)).bind λh=>some (!h)else some false)=some (!(Mc e i).N==0&&!Ec (Mc e i).Op):=by
     grind
    rw[hj]at a⊢;rw[zaa]at a⊢;generalize (!(Mc e i).N==0&&!Ec (Mc e i).Op)=c at a⊢;cases c
    .rw[if_neg (by simp)]at a⊢;rw[sn,zaa,b,caa (by omega),zaa,a,zaa];by_cases d:(MD e s (Qx e s i) i).2=0
     .rw[if_neg (by omega),if_pos d,Hy (by omega),zaa,uf (by grind),zaa,sa (by omega)];rfl
     .rw[if_pos d,if_neg d];rfl
    .rw[if_pos rfl]at a⊢;injection a with a;rw[←a,if_neg (by decide)];rfl
   grind[Dp]
  rw[hl]
  cases hf:ff (rD e s) e.length with
  |some v=>rfl
  |none=>
   obtain⟨g,h2⟩:=AA (s:=s) hw hN e.length (by omega) (ab.1 hf);have:0<(Qx e s e.length).length:=by
    rw[g];obtain⟨k,hk⟩:∃k,e.length=k+1:=⟨e.length-1,by have:=hw.pos;omega⟩
    grind[pL]
   simp only[Eb,zaa];rw[show(0:Int)=((0:Nat):Int)from rfl,ya this,zaa,Baa this];rfl
 simp_all
end Go.Proofs.Dev
namespace Go.Tm
theorem Kz{x n:Int}:∀{l:List Int},x∈Ak l n↔x∈l\/x=n
 |[]=>by simp[Ak]
 |y::l=>by
  simp only[Ak];split
  .grind
  .simp only[Tab,Kz (l:=l)];grind
abbrev qS(l:List Int):Prop:=l.Pairwise (·<·)
theorem dK{n:Int}:∀{l:List Int},qS l->qS (Ak l n)
 |[],_=>by simp[Ak]
 |y::l,h=>by
  have b:=Oab.1 h;simp only[Ak];split
  .split
   .refine Oab.2 ⟨λz a=>?_,h⟩
    grind
   omega
  .refine Oab.2 ⟨λz a=>?_,dK b.2⟩;rcases Kz.1 a with a|rfl
   all_goals simp_all
theorem NB{n:Int}:∀{l:List Int},(Ak l n).length<=l.length+1
 |[]=>by simp[Ak]
 |y::l=>by
  simp only[Ak];split
  .grind
  .have:=NB (n:=n) (l:=l);simp_all
theorem QV{n:Int}:∀{l:List Int},(∀x∈l,x<n)->Ak l n=l++[n]
 |[],_=>rfl
 |y::l,h=>by
  have:=h y (by simp);simp only[Ak];rw[if_neg (by omega),QV λx hx=>h x (by grind)];rfl
theorem KQ{n:Int}{r:List Int}:∀{l:List Int},(∃x∈l,n<=x)->Ak (l++r) n=Ak l n++r
 |[],h=>by grind
 |y::l,h=>by
  simp only[Ak,Waa];split
  .grind
  .rename_i hny;rw[KQ (l:=l),Waa]
   simp_all
theorem CG{n x:Int}:∀{l:List Int},(∀y∈l,y<n)->n<=x->Ak (l++[x]) n=l++(if n<x then [n,x]else [x])
 |[],_,h=>by simp_all[Ak]
 |y::l,hl,h=>by
  have:=hl y (by simp);simp only[Ak,Waa];rw[if_neg (by omega),CG (λy hy=>hl y (by grind)) h]
theorem Ew{α A β ρ:Type}{step:A×Int->Option (Ex (A×Int) β ρ)}(xs:List α) (f:A->α->A) (a0:A) (b:β) {x0:A×Int}(hx:x0=(a0,0))
 (hgo:∀(i:Nat) (hi:i<xs.length),step ((xs.take i).foldl f a0,(i:Int))=some (.go (f ((xs.take i).foldl f a0) xs[i],((i+1:Nat):Int)))) (hend:step (xs.foldl f a0,(xs.length:Int))=some (.brk b)) :
 ca step x0=some (.inl b):=by
 refine kf (λi=>((xs.take i).foldl f a0,(i:Int))) xs.length b (λi hi=>?_) ?_ (by simp_all)
 all_goals grind[Xaa]
end Go.Tm
namespace Go.Proofs.Dev
open Go Go.Tm
variable {l:List Int}{n:Int}
theorem z6(hl:l.length<=1099511627776):ca (eo l n) (([]:List Int),false,0)=some (.inl (if(l.any λx=>decide (n<=x))=true then Ak l n else l,l.any λx=>decide (n<=x))):=by
 refine kf (λi=>(if((l.take i).any λx=>decide (n<=x))=true then Ak (l.take i) n else l.take i,(l.take i).any λx=>decide (n<=x),(i:Int))) l.length _ (λi hi=>?_) ?_ (by simp)
 .unfold eo;simp only;have ht:l.take (i+1)=l.take i++[l[i]]:=by simp
  have c:(l.take i).length=i:=by grind
  rw[if_pos (by omega),ht,List.any_append,ya hi];generalize l[i]=x;generalize l.take i=p at c⊢;cases hp:p.any λx=>decide (n<=x)
  .have b:∀y∈p,y<n:=λy hy=>by
    simp_all
   simp only[if_true,zaa,Eaa,if_false,Bool.false_or,List.any_cons,List.any_nil,xae];by_cases hx:n<=x
   .rw[decide_eq_true hx];simp only[if_true];by_cases a:n<x
    .rw[if_pos a,uf (by grind),zaa,zaa,zaa];simp only;rw[uf (by grind),zaa,sa (by omega),CG b hx,if_pos a];simp
    .rw[if_neg a,zaa,zaa];simp only;rw[uf (by grind),zaa,sa (by omega),CG b hx,if_neg a]
   .rw[decide_eq_false hx];simp only[Eaa,if_false,zaa]
    grind[uf,sa]
  .have hex:∃y∈p,n<=y:=by
    simp_all
   have:=NB (n:=n) (l:=p);simp only[Raa,if_false,zaa,if_true,Eaa,Bool.true_or]
   grind[uf,sa,KQ]
 grind[eo]
theorem Qt(hl:l.length<=1099511627776):Cn l n=some (Ak l n):=by
 unfold Cn;rw[z6 hl,zaa];simp only;cases hp:l.any λx=>decide (n<=x)
 .have hall:∀y∈l,y<n:=λy hy=>by
   simp_all
  simp only[if_true,Eaa,if_false]
  grind[uf,QV]
 simp
theorem cu(hl:l.length<=1099511627776):Qf l n=some (Ak l n):=by
 rw[←Qt hl];rfl
end Go.Proofs.Dev
namespace Go.Tm
theorem BT{l:List Int}{x:Int}:Pd (l++[x])=Ak (Pd l) x:=by simp[Pd,List.foldl_append]
theorem Gg(l:List Int):qS (Pd l)/\(Pd l).length<=l.length/\∀x,x∈Pd l↔x∈l:=by
 have key:∀(l a:List Int),qS a->qS (l.foldl Ak a)/\(l.foldl Ak a).length<=a.length+l.length/\∀x,x∈l.foldl Ak a↔x∈a\/x∈l:=by
  intro l
  induction l with
  |nil=>simp
  |cons y l d=>
   intro a h;obtain⟨b,h2,c⟩:=d (Ak a y) (dK h);have:=NB (n:=y) (l:=a);refine⟨b,by grind,λx=>?_⟩
   simp_all[bac,Kz,Tab,or_assoc]
 obtain⟨b,h2,c⟩:=key l [] (by simp)
 grind[Pd]
theorem QI{lo hi:Int}:∀{a:List Int},qS a->(∀x∈a,lo<=x/\x<hi)->a.length<=(hi-lo).toNat
 |[],_,_=>by simp
 |x::a,h,hb=>by
  have b:=Oab.1 h;have hx:=hb x (by simp);have:=QI (lo:=x+1) (hi:=hi) b.2 λy hy=>⟨by grind,(hb y (by grind)).2⟩
  grind
theorem PI:∀{a b:List Int},qS a->qS b->(∀x,x∈a↔x∈b)->a=b
 |[],[],_,_,_=>rfl
 |[],y::b,_,_,h=>by have:=(h y).2 (by simp);simp_all
 |x::a,[],_,_,h=>by have:=(h x).1 (by simp);simp_all
 |x::a,y::b,ha,hb,h=>by
  have c:=Oab.1 ha;have d:=Oab.1 hb;have e:x=y:=by
   have h1:=(h x).1 (by simp);have h2:=(h y).2 (by simp)
   grind
  subst e;rw[PI c.2 d.2 λz=>?_]
  grind
end Go.Tm
namespace Go.Proofs.Dev
open Go Go.Tm
variable {p:GNode->Bool}{l a:List Int}{x:GNode}{e:List GNode}{n d:Int}
def lA(p:GNode->Bool) (e:List GNode):List Int:=Pd ((e.filter p).map (·.N))
theorem V4{l:List GNode}:lA p (l++[x])=if p x=true then Ak (lA p l) x.N else lA p l:=by
 unfold lA;rw[uab,List.map_append];by_cases h:p x=true
 all_goals simp_all[if_pos,List.filter_cons_of_pos,List.filter_nil,BT,if_neg,List.filter_cons_of_neg]
theorem yq:(lA p e).length<=e.length:=by
 grind[lA,Gg,Yaa]
def MQ(n:GNode):Bool:=n.Op==7
def Vg(n:GNode):Bool:=n.Op==8
def Hv(n:GNode):Bool:=n.Op==36 || n.Op==37 || n.Op==38 || n.Op==39
def Ym(e:List GNode):List Int×List Int×List Int:=(lA MQ e,lA Vg e,lA Hv e)
theorem PI:∀{a b:List Int},qS a->qS b->(∀x,x∈a↔x∈b)->a=b
 |[],[],_,_,_=>rfl
 |[],y::b,_,_,h=>by have:=(h y).2 (by simp);simp_all
 |x::a,[],_,_,h=>by have:=(h x).1 (by simp);simp_all
 |x::a,y::b,ha,hb,h=>by
  obtain⟨ha1,c⟩:=Oab.1 ha;obtain⟨hb1,d⟩:=Oab.1 hb;have e:x=y:=by
   have h1:=(h x).1 (by simp);have h2:=(h y).2 (by simp)
   grind
  subst e;rw[PI c d λz=>?_]
  grind
theorem xD{d:Array Int}(k:∀i j,i<j->j<d.size->d[i]!<=d[j]!):∀m,m<=d.size->qS (Go.Lib.compactUpTo d m)/\∀x,x∈Go.Lib.compactUpTo d m↔∃i,i<m/\d[i]! = x
 |0,_=>⟨by simp[Go.Lib.compactUpTo,qS],by simp[Go.Lib.compactUpTo]⟩
 |m+1,hm=>by
  obtain⟨b,e⟩:=xD k m (by omega);have g:∀i,i<m->d[i]!<=d[m-1]!:=by
   intro i hi;by_cases h:i=m-1
   .simp_all
   .exact k i (m-1) (by omega) (by omega)
  rw[Go.Lib.compactUpTo_succ];by_cases hk:Go.Lib.keeps d m=true
  .rw[if_pos hk];refine⟨?_,λx=>?_⟩
   .unfold qS;rw[List.pairwise_append];refine⟨b,by simp,λa ha c hc=>?_⟩;obtain⟨i,hi,rfl⟩:=(e a).1 ha;obtain rfl:=Nab.1 hc;have hne:d[m]!≠d[m-1]!:=by
     have:=of_decide_eq_true hk;omega
    have h1:=g i hi;have h2:=k (m-1) m (by omega) (by omega);omega
   grind
  .rw[if_neg hk,List.append_nil];refine⟨b,λx=>?_⟩;rw[e];have f:Go.Lib.keeps d m=false:=by simp_all
   have hmm:¬(m=0\/d[m]!≠d[m-1]!):=of_decide_eq_false f
   grind
theorem Oy(l:List Int):Go.Lib.compact (l.mergeSort λx y=>decide (x<=y))=Pd l:=by
 have hp:=List.pairwise_mergeSort (le:=λ(x y:Int)=>decide (x<=y)) (λa b c e h2=>by grind) (λa b=>by grind) l;have hm:∀x,x∈(l.mergeSort λx y=>decide (x<=y))↔x∈l:=λx=>List.mem_mergeSort;generalize (l.mergeSort λx y=>decide (x<=y))=q at *;obtain⟨e,h2⟩:=xD (d:=q.toArray) (λi j hij hj=>by
  grind[List.pairwise_iff_getElem]) q.length (by simp)
 obtain⟨g1,-,g2⟩:=Gg l;refine PI e g1 λx=>?_;unfold Go.Lib.compact;rw[h2,g2,←hm x];constructor
 .grind
 .intro h;obtain⟨i,hi,rfl⟩:=List.mem_iff_getElem.1 h;exact⟨i,hi,by simp_all⟩
theorem gw(h:l.length<=1099511627776):Il l=some (Pd l):=by
 unfold Il Ya La;rw[if_pos (by omega),zaa,if_pos (by simp;omega),zaa,Oy]
theorem uz(h:l.length<=8796093022208):Vi l=some (Pd l):=by
 simp_all[Vi,Ya,La,if_pos,zaa,Oy]
theorem DB{l:List GNode}:((l++[x]).filter p).map (·.N)=if p x=true then(l.filter p).map (·.N)++[x.N]else(l.filter p).map (·.N):=by
 grind
theorem Vo(h:e.length<=1099511627776):bg e=some (Ym e):=by
 unfold bg;have hb:∀(p:GNode->Bool) (i:Nat),(((e.take i).filter p).map (·.N)).length<=e.length:=λp i=>by
  grind
 have hl:ca (Zi e) (([]:List Int),([]:List Int),([]:List Int),0)=some (.inl ((e.filter MQ).map (·.N),(e.filter Vg).map (·.N),(e.filter Hv).map (·.N))):=by
  refine kf (λi=>(((e.take i).filter MQ).map (·.N),((e.take i).filter Vg).map (·.N),((e.take i).filter Hv).map (·.N),(i:Int))) e.length _ (λi hi=>?_) ?_ rfl
  .have ht:e.take (i+1)=e.take i++[e[i]]:=by simp
   have b1:=hb MQ i;have b2:=hb Vg i;have b3:=hb Hv i;unfold Zi;simp only;rw[if_pos (by omega),ya hi,zaa,sa (by omega),ht,DB,DB,DB]
   grind[MQ,Vg,Hv,uf]
  simp_all[Zi,if_neg,tac]
 have c:∀p:GNode->Bool,((e.filter p).map (·.N)).length<=1099511627776:=λp=>by
  grind
 rw[hl,zaa];simp only;rw[gw (c MQ),zaa,gw (c Vg),zaa,gw (c Hv),zaa];rfl
theorem An(h:e.length<=1099511627776):pf e=some (Ym e):=by
 unfold pf;have hl:ca (zi e) (([]:List Int),([]:List Int),([]:List Int),0)=some (.inl (Ym e)):=by
  refine kf (λi=>((Ym (e.take i)).1,(Ym (e.take i)).2.1,(Ym (e.take i)).2.2,(i:Int))) e.length _ (λi hi=>?_) ?_ rfl
  .have ht:e.take (i+1)=e.take i++[e[i]]:=by simp
   have a:(e.take i).length<=1099511627776:=by grind
   have b:=yq (p:=MQ) (e:=e.take i);have c:=yq (p:=Vg) (e:=e.take i);have d:=yq (p:=Hv) (e:=e.take i);unfold zi Ym;simp only[ht,V4];rw[if_pos (by omega),ya hi,sa (by omega)];generalize e[i]=x;simp only[zaa,Qt (Bab b a),Qt (Bab c a),Qt (Bab d a),XB]
   grind[Aaa,decide,MQ,Ak,lA,Vg,Hv]
  grind[zi]
 simp_all
def HB(n:Int) (a:List Int) (x:Int):List Int:=if 0<=x/\x<n then Ak a x else a
def AE(n:Int) (a:List Int):Prop:=qS a/\∀x∈a,0<=x/\x<n
theorem AE.len(h:AE n a):a.length<=n.toNat:=by
 have:=QI (lo:=0) (hi:=n) h.1 h.2;omega
theorem AE.nil:AE n []:=⟨by simp,by simp⟩
theorem AE.ins{x:Int}(h:AE n a):AE n (HB n a x):=by
 unfold HB;split
 .rename_i hx;refine⟨dK h.1,λy b=>?_⟩;rcases Kz.1 b with b|rfl
  .exact h.2 y b
  omega
 omega
theorem AE.fold{n:Int}:∀{l a:List Int},AE n a->AE n (l.foldl (HB n) a)
 |[],a,h=>h
 |x::l,a,h=>AE.fold (l:=l) h.ins
theorem mK{n x:Int}:∀{l a:List Int},x∈l.foldl (HB n) a↔x∈a\/(x∈l/\0<=x/\x<n)
 |[],a=>by simp
 |y::l,a=>by
  simp only[bac];rw[mK (l:=l)];unfold HB;split
  .rename_i hy;rw[Kz,Tab]
   grind
  grind
theorem xA(s:GScope) (d:Int):Uv s d=some (decide (0<=d)&&decide (d<(s.d.length:Int))):=by
 grind[Uv]
def lC(r:GRule):List Int:=lA Vg r.ac++lA Vg r.Value
def yJ(n d:Int) (a:List Int) (r:GRule):List Int:=if r.s=d then(lC r).foldl (HB n) a else a
def ou(s:GScope) (d:Int):List Int:=if 0<=d/\d<(s.d.length:Int)then s.f.foldl (yJ s.d.length d) []else []
structure ScOk (s:GScope):Prop where
 defs:s.d.length<=1048576
 rules:s.f.length<=1048576
 g:∀r∈s.f,r.ac.length<=1048576/\r.Value.length<=1048576
variable {s:GScope}
theorem W4{r:GRule}(h:AE n a):AE n (yJ n d a r):=by
 unfold yJ;split
 .exact h.fold
 omega
theorem uB{n d:Int}:∀{l:List GRule}{a:List Int},AE n a->AE n (l.foldl (yJ n d) a)
 |[],a,h=>h
 |r::l,a,h=>uB (l:=l) (W4 h)
theorem vB(s:GScope) (d:Int):AE s.d.length (ou s d):=by
 grind[ou,uB,AE.nil]
theorem uH(f:ScOk s) (hl:l.length<=1099511627776) (ha:AE s.d.length a) {step:List Int×Int->Option (Ex (List Int×Int) (List Int) Unit)}
 (c:∀(a:List Int) (i:Nat) (hi:i<l.length),step (a,(i:Int))=(Aaa (α:=List Int) (if(decide (0<=l[i])&&decide (l[i]<(s.d.length:Int)))=true then(Qf a l[i]).bind λx=>some x else some a) λj=>some (.go (j,aa .i64 ((i:Int)+1)))))
 (d:∀a,step (a,(l.length:Int))=some (.brk a)):ca step (a,0)=some (.inl (l.foldl (HB s.d.length) a)):=by
 refine Ew l (HB s.d.length) a _ rfl (λi hi=>?_) (d _);have e:=(AE.fold (l:=l.take i) ha).len;have:=f.defs;rw[c _ i hi,sa (by omega)];generalize (l.take i).foldl (HB s.d.length) a=b at e⊢;unfold HB;by_cases h:0<=l[i]/\l[i]<(s.d.length:Int)
 .rw[if_pos (by simp_all),if_pos h,cu (by omega)];rfl
 grind
theorem Cx(b:ScOk s) (d:Int):Hn s d=some (ou s d):=by
 unfold Hn ou;rw[xA,zaa];by_cases hd:0<=d/\d<(s.d.length:Int)
 .rw[if_neg (by simp_all),if_pos hd];have hl:ca (Pm s d) (([]:List Int),0)=some (.inl (s.f.foldl (yJ s.d.length d) [])):=by
   refine Ew s.f (yJ s.d.length d) [] _ rfl (λi hi=>?_) ?_
   .have c:AE s.d.length ((s.f.take i).foldl (yJ s.d.length d) []):=uB AE.nil;have:=b.rules;have j:=b.g _ (Iaa hi);unfold Pm;simp only;rw[if_pos (by omega),ya hi,sa (by omega)];generalize (s.f.take i).foldl (yJ s.d.length d) []=a at c⊢;generalize s.f[i]=r at j⊢;unfold yJ;by_cases h:r.s=d
    .rw[if_pos h,zaa,if_neg (by omega),An (by omega),zaa,An (by omega),zaa];have l1:=yq (p:=Vg) (e:=r.ac);have l2:=yq (p:=Vg) (e:=r.Value);have f:ca (Tq s (Ym r.ac)) (a,0)=some (.inl ((lA Vg r.ac).foldl (HB s.d.length) a)):=by
      refine uH b (l:=lA Vg r.ac) (by omega) c (λa i hi=>?_) (λa=>?_)
      all_goals simp_all[Tq,Ym,if_pos,ya,zaa,xA]
     rw[f,zaa];simp only;have b2:ca (Rq s (Ym r.Value)) ((lA Vg r.ac).foldl (HB s.d.length) a,0)=some (.inl ((lA Vg r.Value).foldl (HB s.d.length) ((lA Vg r.ac).foldl (HB s.d.length) a))):=by
      refine uH b (l:=lA Vg r.Value) (by omega) (AE.fold c) (λa i hi=>?_) (λa=>?_)
      all_goals simp_all[Rq,Ym,if_pos,ya,zaa,xA]
     grind[lC]
    simp_all
   grind[Pm]
  simp_all
 grind
def YH(s:GScope) (d x:Int):Prop:=(0<=d/\d<(s.d.length:Int))/\(0<=x/\x<(s.d.length:Int))/\∃r∈s.f,r.s=d/\x∈lC r
theorem SB{x:Int}:x∈ou s d↔YH s d x:=by
 have key:∀(l:List GRule) (a:List Int),x∈l.foldl (yJ s.d.length d) a↔x∈a\/(0<=x/\x<(s.d.length:Int))/\∃r∈l,r.s=d/\x∈lC r:=by
  intro l
  induction l with
  |nil=>simp
  |cons r l b=>
   intro a;simp only[bac];rw[b];unfold yJ;split
   .rename_i hr;rw[mK]
    grind
   simp_all
 unfold ou YH
 simp_all
end Go.Proofs.Dev
namespace Go.Tm
theorem ED{α:Type} [DecidableEq α]:∀{a b:List α},a.Nodup->(∀x∈a,x∈b)->a.length<=b.length
 |[],b,_,_=>by simp
 |x::a,b,h,hs=>by
  obtain⟨h1,h2⟩:=jae.1 h;have:=ED (a:=a) (b:=b.erase x) h2 λy hy=>by
   grind
  grind
theorem WM{a:List Int}(h:qS a):a.Nodup:=h.imp λh he=>by omega
end Go.Tm
namespace Go.Proofs.Dev
open Go Go.Tm
variable {a:List Int}{x:GScope}{y d:Int}{k n i:Nat}{step:Int->Option (Ex Int Unit Bool)}{α:Type}{q:α->Bool}{v:Int×Int}{e:List GNode}{o:Option Bool}
inductive Way (s:GScope):Int->Int->Prop
 |one {a b:Int} (h:YH s a b):Way s a b
 |step {a b c:Int} (h:Way s a b) (h2:YH s b c):Way s a c
def trF(s:GScope) (a:List Int) (x:Int):List Int:=(ou s x).foldl Ak a
def trR(s:GScope) (a:List Int):List Int:=a.foldl (trF s) a
def MC(s:GScope) (d:Int):Nat->List Int
 |0=>ou s d
 |k+1=>trR s (MC s d k)
theorem DG{n:Int}:∀{l a:List Int},(∀x∈l,0<=x/\x<n)->l.foldl Ak a=l.foldl (HB n) a
 |[],a,_=>rfl
 |x::l,a,h=>by
  simp only[bac];rw[show HB n a x=Ak a x from if_pos (h x (by simp)),DG λy hy=>h y (by grind)]
theorem trF_eq(s:GScope) (a:List Int) (x:Int):trF s a x=(ou s x).foldl (HB s.d.length) a:=DG (vB s x).2
theorem trF_inv{s:GScope}{x:Int}(h:AE s.d.length a):AE s.d.length (trF s a x):=by rw[trF_eq];exact h.fold
theorem trF_mem{s:GScope}{x:Int}:y∈trF s a x↔y∈a\/YH s x y:=by
 rw[trF_eq,mK];constructor
 .grind[SB]
 .rintro(h|h)
  .simp_all
  .exact .inr ⟨SB.2 h,h.2.1⟩
theorem yE{s:GScope}:∀{l a:List Int},AE s.d.length a->AE s.d.length (l.foldl (trF s) a)
 |[],a,h=>h
 |x::l,a,h=>yE (l:=l) (trF_inv h)
theorem Px{s:GScope}{y:Int}:∀{l a:List Int},y∈l.foldl (trF s) a↔y∈a\/∃x∈l,YH s x y
 |[],a=>by simp
 |x::l,a=>by
  simp only[bac];rw[Px (l:=l),trF_mem]
  grind
theorem Jy(s:GScope) (d:Int):∀k,AE s.d.length (MC s d k)
 |0=>vB s d
 |k+1=>yE (Jy s d k)
theorem kH{s:GScope}{d y:Int}:∀{k:Nat},y∈MC s d k->Way s d y
 |0,h=>.one (SB.1 h)
 |k+1,h=>by
  rcases Px.1 h with h|⟨x,a,h2⟩
  .exact kH h
  .exact .step (kH a) h2
theorem xL{s:GScope}(h:y∈MC s d k):y∈MC s d (k+1):=Px.2 (.inl h)
theorem jS{s:GScope}{d y:Int}(h:YH s d y):∀k,y∈MC s d k
 |0=>SB.2 h
 |k+1=>xL (jS h k)
def Shut(s:GScope) (a:List Int):Prop:=∀x∈a,∀y,YH s x y->y∈a
open Classical in
theorem kS{s:GScope}{d:Int}:∀k,Shut s (MC s d k)\/k+1<=(MC s d k).length
 |0=>by
  cases h:MC s d 0 with
  |nil=>exact .inl λx hx=>by simp at hx
  |cons x l=>exact .inr (by simp)
 |k+1=>by
  by_cases hc:Shut s (MC s d k)
  .refine .inl λx hx y g=>?_;have c:x∈MC s d k:=by
    rcases Px.1 hx with h|⟨z,n,h2⟩
    .exact h
    .exact hc z n x h2
   exact xL (hc x c y g)
  .rcases kS k with h|h
   .exact(hc h).elim
   .right;obtain⟨x,hx⟩:=lae.1 hc;obtain⟨e,f⟩:=Gae.1 hx;obtain⟨y,g⟩:=lae.1 f;obtain⟨i,j⟩:=Gae.1 g;have:=ED (a:=y::MC s d k) (b:=MC s d (k+1)) (jae.2 ⟨j,WM (Jy s d k).1⟩) λz m=>by
     rcases Tab.1 m with rfl|m
     .exact Px.2 (.inr ⟨x,e,i⟩)
     .exact xL m
    simp only[List.length_cons]at this;omega
theorem trN_shut(s:GScope) (d:Int):Shut s (MC s d s.d.length):=by
 rcases kS (s:=s) (d:=d) s.d.length with h|h
 .exact h
 .have:=(Jy s d s.d.length).len;omega
theorem yy{s:GScope}:y∈MC s d s.d.length↔Way s d y:=by
 constructor
 .exact kH
 .intro h
  induction h with
  |one h=>grind[jS]
  |step h h2 a=>exact trN_shut s d _ a _ h2
theorem Jn{s:GScope}(f:ScOk s) (d:Int):qf s d=some (MC s d s.d.length):=by
 unfold qf;have hn:=f.defs;have round:∀a,AE s.d.length a->ca (Ah s a) (a,0)=some (.inl (trR s a)):=by
  intro a ha;have:=ha.len;refine Ew a (trF s) a _ rfl (λi hi=>?_) (by grind[Ah,trR]);have e:AE s.d.length ((a.take i).foldl (trF s) a):=yE ha;unfold Ah;simp only;rw[if_pos (by omega),ya hi,zaa,Cx f,zaa,sa (by omega)];generalize (a.take i).foldl (trF s) a=b at e⊢;have hd:=(vB s a[i]).len;have hb:ca (zh (ou s a[i])) (b,0)=some (.inl ((ou s a[i]).foldl Ak b)):=by
   refine Ew (ou s a[i]) Ak b _ rfl (λk hk=>?_) (by grind[zh]);have c:AE s.d.length (((ou s a[i]).take k).foldl Ak b):=by
    rw[DG λx hx=>(vB s a[i]).2 x (List.mem_of_mem_take hx)];exact e.fold
   have:=c.len;unfold zh;simp only;rw[if_pos (by omega),ya hk,zaa,cu (by omega),zaa,sa (by omega)]
  rw[hb,zaa];rfl
 have hl:ca (Bh s) (ou s d,0)=some (.inl (MC s d s.d.length)):=by
  refine kf (λi=>(MC s d i,(i:Int))) s.d.length _ (λi hi=>?_) (by grind[Bh]) rfl;unfold Bh;simp only;rw[if_pos (by omega),round _ (Jy s d i),zaa,sa (by omega)];rfl
 grind[Cx]
def jI(n:Int) (l:List Int):List Int:=l.filter λx=>decide (0<=x)&&decide (x<n)
theorem HM{n:Int}{l:List Int}(h:a.length+l.length<=1099511627776) {step:List Int×Int->Option (Ex (List Int×Int) (List Int) Unit)}
 (hstep:∀(a:List Int) (i:Nat) (hi:i<l.length),step (a,(i:Int))=(Aaa (α:=List Int) (if(decide (0<=l[i])&&decide (l[i]<n))=true then(app 8 a [l[i]]).bind λx=>some x else some a) λj=>some (.go (j,aa .i64 ((i:Int)+1)))))
 (hend:∀a,step (a,(l.length:Int))=some (.brk a)):ca step (a,0)=some (.inl (a++jI n l)):=by
 refine kf (λi=>(a++jI n (l.take i),(i:Int))) l.length _ (λi hi=>?_) ?_ (by simp[jI])
 .have hlen:(jI n (l.take i)).length<=i:=by
   grind[jI]
  have ht:jI n (l.take (i+1))=jI n (l.take i)++(if(decide (0<=l[i])&&decide (l[i]<n))=true then [l[i]]else []):=by
   grind[jI,Xaa]
  grind[sa,uf]
 simp_all
theorem Cv{r:GRule}(h:r.ac.length<=1048576/\r.Value.length<=1048576) (n:Int):Oe r n=some (jI n (lA Vg r.ac)++jI n (lA Vg r.Value)):=by
 unfold Oe;have l1:=yq (p:=Vg) (e:=r.ac);have l2:=yq (p:=Vg) (e:=r.Value);have l3:(jI n (lA Vg r.ac)).length<=(lA Vg r.ac).length:=Yaa _ _;rw[Vo (by omega),zaa,Vo (by omega),zaa];have b:ca (ug n (Ym r.ac)) (([]:List Int),0)=some (.inl ([]++jI n (lA Vg r.ac))):=by
  refine HM (l:=lA Vg r.ac) (by grind) (λa i hi=>?_) (λa=>?_)
  .unfold ug Ym;simp only;rw[if_pos (by omega),ya hi,zaa]
   grind
  grind[ug,Ym]
 rw[b,zaa];simp only[List.nil_append];have b2:ca (tg n (Ym r.Value)) (jI n (lA Vg r.ac),0)=some (.inl (jI n (lA Vg r.ac)++jI n (lA Vg r.Value))):=by
  refine HM (l:=lA Vg r.Value) (by omega) (λa i hi=>?_) (λa=>?_)
  .unfold tg Ym;simp only;rw[if_pos (by omega),ya hi,zaa]
   grind
  grind[tg,Ym]
 simp_all
theorem mapM_some{α β:Type}{f:α->Option β}(g:α->β):∀{l:List α},(∀x∈l,f x=some (g x))->l.mapM f=some (l.map g)
 |[],_=>rfl
 |x::l,h=>by
  rw[List.mapM_cons,h x (by simp),mapM_some g λy hy=>h y (by grind)];rfl
def Sj(s:GScope):List (List Int):=
 (Kaa s.d.length).map λ(d:Nat)=>Pd ((s.f.filter λ(r:GRule)=>r.s==(d:Int)).map λr=>jI s.d.length (lA Vg r.ac)++jI s.d.length (lA Vg r.Value)).flatten
theorem xq{s:GScope}(a:ScOk s):Gc s=some (Sj s):=by
 unfold Gc Sj;rw[if_pos ⟨a.defs,a.rules,a.g⟩];refine mapM_some _ λd _=>?_;rw[mapM_some (λr=>jI s.d.length (lA Vg r.ac)++jI s.d.length (lA Vg r.Value)) λr hr=>Cv (a.g r (Bac.1 hr).1) _];rfl
theorem PB{s:GScope}{l:List Int}(h0:0<=d) (h:(Sj s)[d.toNat]?=some l) (x:Int):x∈l↔YH s d x:=by
 unfold Sj at h;rw[List.getElem?_map]at h;by_cases hd:d.toNat<s.d.length
 .rw[List.getElem?_range hd]at h;simp only[Option.map_some,dab]at h;subst h;rw[(Gg _).2.2];simp only[List.mem_flatten,pac,Bac,beq_iff_eq,YH,lC,jI]
  grind
 simp_all
theorem fm(s:GScope):(Sj s).length=s.d.length:=by simp[Sj]
theorem lZ{s:GScope}{a b:Int}(f:0<=a):ReachL (Sj s) a b↔Way s a b:=by
 constructor
 .intro h;have key:∀{b:Int},ReachL (Sj s) a b->Way s a b/\0<=b:=by
   intro b h
   induction h with
   |one h hb=>exact have:=(PB f h _).1 hb;⟨.one this,this.2.1.1⟩
   |step h hl hc e=>exact have:=(PB e.2 hl _).1 hc;⟨.step e.1 this,this.2.1.1⟩
  simp_all
 .intro h;have get:∀{d x:Int},YH s d x->∃l,(Sj s)[d.toNat]?=some l/\x∈l:=by
   intro d x hd;have c:d.toNat<(Sj s).length:=by rw[fm];have:=hd.1;omega
   exact⟨_,Baa c,(PB hd.1.1 (Baa c) x).2 hd⟩
  induction h with
  |one h=>obtain⟨l,g,h2⟩:=get h;exact .one g h2
  |step h h2 e=>obtain⟨l,i,j⟩:=get h2;exact .step e i j
theorem iO{l:List Int}(hl:l.length<=1099511627776) (d:Int):sf l d=some (decide (d∈l)):=by
 have h:=Au (l:=l) (p:=λx=>some (decide (d=x))) (λx=>decide (d=x)) (λx _=>rfl) (by omega) (o:=ca (Xh l d) 0) (by
  unfold Xh;simp)
 have h':sf l d=some (l.any λx=>decide (d=x)):=h
 grind
open Classical in
theorem pk{s:GScope}(c:ScOk s) (d:Int):∃l,Fc s d=some l/\l.length<=1048576/\∀x,x∈l↔Way s d x:=by
 unfold Fc;by_cases hd:0<=d/\d<(s.d.length:Int)
 .have hn:=c.defs;refine⟨DK (Sj s) d,?_,?_,?_⟩
  .rw[if_pos (by omega),zaa,if_neg (by simp;omega),xq c,zaa];unfold qk;rw[if_pos]
   .rfl
   .refine⟨by rw[fm];omega,λl hl=>?_,hd.1,by rw[fm];exact hd.2⟩;obtain⟨i,hi,rfl⟩:=Maa hl;have hm:=λx=>PB (s:=s) (d:=(i:Int)) (l:=(Sj s)[i]) (by omega) (by rw[Int.toNat_natCast];exact Baa hi) x;have hb:∀x∈(Sj s)[i],0<=x/\x<((Sj s).length:Int):=λx hx=>by rw[fm];exact((hm x).1 hx).2.1
    refine⟨?_,hb⟩;have a:qS (Sj s)[i]:=by simp only[Sj,List.getElem_map];exact(Gg _).1
    have:=QI a hb;rw[fm]at this;omega
  .have e:=Yaa (λb=>@decide (ReachL (Sj s) d b) (Classical.propDecidable _)) ((Kaa (Sj s).length).map λ(k:Nat)=>(k:Int));unfold DK;simp only[List.length_map,List.length_range,fm]at e⊢;omega
  .intro x;unfold DK;rw[Bac,fm,pac,decide_eq_true_eq,lZ hd.1];constructor
   .exact λh=>h.2
   .intro h;refine⟨?_,h⟩;have:0<=x/\x<(s.d.length:Int):=by cases h with|one h=>exact h.2.1|step _ h=>exact h.2.1
    exact⟨x.toNat,by simp;omega,by omega⟩
 .refine⟨[],?_,by simp,λx=>?_⟩
  .have:(if¬d<0 then some (decide ((s.d.length:Int)<=d))else some true)=some true:=by
    by_cases h:d<0
    .rw[if_neg (by omega)]
    .rw[if_pos h,decide_eq_true (by omega)]
   rw[this];rfl
  .constructor
   .intro h;simp at h
   .intro h;exfalso;apply hd;clear hd
    induction h with
    |one h=>exact h.1
    |step h h2 f=>exact f
structure LawOk (l:GLaw):Prop where
 ne:l.q.length<=1048576
 nt:l.Tables.length<=1048576
 ns:l.e.length<=1048576
 e:∀x∈l.q,x.j.size<=1048576/\∀m∈x.r,m.size<=1048576
 t:∀x∈l.Tables,x.j.size<=1048576
 s:∀x∈l.e,x.j.size<=1048576/\ScOk x/\x.u.length<=1048576/\(∀f∈x.u,f.j.size<=1048576)/\(∀f∈x.d,f.j.size<=1048576)/\
  (∀r∈x.f,r.j.size<=1048576/\r.au.size<=1048576/\(∀n∈r.ac,Kb n)/\∀n∈r.Value,Kb n)
theorem HP{ρ:Type}{l:List α}(hk:k<=l.length) {g:Nat->ρ}:(ff (λi=>if i<k/\(l[i]?.any q)=true then some (g i)else none) l.length).isSome=(l.take k).any q:=by
 rw[←Ku (l:=l.take k) (q:=q) (g:=g)];have h:∀m,k<=m->ff (λi=>if i<k/\(l[i]?.any q)=true then some (g i)else none) m=ff (λi=>if((l.take k)[i]?.any q)=true then some (g i)else none) k:=by
  intro m hm
  cases h1:ff (λi=>if((l.take k)[i]?.any q)=true then some (g i)else none) k with
  |none=>
   grind[ab]
  |some v=>
   grind[Pa]
 simp_all
theorem Ir{l:List α}(hl:l.length<=1048576) (hk:k<=l.length) 
 (a:∀(i:Nat) (hi:i<l.length),step (i:Int)=if i<k/\q l[i]=true then some (.ret true)else some (.go ((i+1:Nat):Int))) (b:step (l.length:Int)=some (.brk ())) :
 ca step 0=some (if(l.take k).any q=true then .inr true else .inl ()):=by
 have c:=xb (step:=step) (x0:=0) (λi=>(i:Int)) (λi=>if i<k/\(l[i]?.any q)=true then some true else none) l.length () (λi hi _=>by
  rw[a i hi,Baa hi,rac];by_cases h:i<k/\q l[i]=true
  .rw[if_pos h,if_pos h];rfl
  .rw[if_neg h,if_neg h];rfl) (λ_=>b)
 rw[c,←HP (q:=q) (g:=λ_=>true) hk]
 cases hf:ff (λi=>if i<k/\(l[i]?.any q)=true then some true else none) l.length with
 |none=>rfl
 |some v=>
  obtain⟨i,-,h2,-⟩:=Pa.1 hf;split at h2
  .injection h2 with h2;subst h2;rfl
  simp_all
theorem lE(hn:n<=1048576) (a:∀i:Nat,i<n->step (i:Int)=some (.go ((i+1:Nat):Int))) (b:step (n:Int)=some (.brk ())):ca step 0=some (.inl ()):=
 kf (λi=>(i:Int)) n () (λi hi=>a i hi) b
theorem taken1{l:GLaw}(h:LawOk l) (hi:i<=l.q.length) (nm:ByteArray):Ic l 1 (i:Int) nm=some ((l.q.take i).any λx=>decide (x.j=nm)):=by
 have a:=h.ne;have c:=h.nt;have b:=h.ns;unfold Ic;have h1:ca (zc l 1 (i:Int) nm) 0=some (if(l.q.take i).any (λx=>decide (x.j=nm))=true then .inr true else .inl ()):=Ir a hi (λk hk=>by
  unfold zc;rw[if_pos (by omega),ya hk,sa (by omega)]
  grind) (by grind[zc])
 have h2:ca (lb l 1 (i:Int) nm) 0=some (.inl ()):=lE c (λk hk=>by
  unfold lb;rw[if_pos (by omega),sa (by omega)];simp) (by grind[lb])
 have h3:ca (Ab l 1 (i:Int) nm) 0=some (.inl ()):=lE b (λk hk=>by
  unfold Ab;rw[if_pos (by omega),sa (by omega)];simp) (by grind[Ab])
 grind
theorem FP{l:GLaw}(h:LawOk l) {t i:Int}(ht:1<t) (nm:ByteArray):ca (zc l t i nm) 0=some (if l.q.any (λx=>decide (x.j=nm))=true then .inr true else .inl ()):=by
 have a:=h.ne;have:=Ir (l:=l.q) (q:=λx=>decide (x.j=nm)) (k:=l.q.length) (step:=zc l t i nm) a (Paa _) (λk hk=>by
  unfold zc;rw[if_pos (by omega),ya hk,sa (by omega),if_neg (by omega)]
  simp_all) (by grind[zc])
 simp_all
theorem taken2{l:GLaw}(h:LawOk l) (hi:i<=l.Tables.length) (nm:ByteArray):Ic l 2 (i:Int) nm=some ((l.q.any λx=>decide (x.j=nm)) || (l.Tables.take i).any λx=>decide (x.j=nm)):=by
 have hne:=h.ne;have b:=h.nt;have a:=h.ns;unfold Ic;have h2:ca (lb l 2 (i:Int) nm) 0=some (if(l.Tables.take i).any (λx=>decide (x.j=nm))=true then .inr true else .inl ()):=Ir b hi (λk hk=>by
  unfold lb;rw[if_pos (by omega),ya hk,sa (by omega)]
  grind) (by grind[lb])
 have h3:ca (Ab l 2 (i:Int) nm) 0=some (.inl ()):=lE a (λk hk=>by
  unfold Ab;rw[if_pos (by omega),sa (by omega)];simp) (by grind[Ab])
 grind[FP]
theorem taken3{l:GLaw}(h:LawOk l) (hi:i<=l.e.length) (nm:ByteArray):Ic l 3 (i:Int) nm=some ((l.q.any λx=>decide (x.j=nm)) || ((l.Tables.any λx=>decide (x.j=nm)) || (l.e.take i).any λx=>decide (x.j=nm))):=by
 have hne:=h.ne;have b:=h.nt;have a:=h.ns;unfold Ic;have h2:ca (lb l 3 (i:Int) nm) 0=some (if l.Tables.any (λx=>decide (x.j=nm))=true then .inr true else .inl ()):=by
  have:=Ir (l:=l.Tables) (q:=λx=>decide (x.j=nm)) (k:=l.Tables.length) (step:=lb l 3 (i:Int) nm) b (Paa _) (λk hk=>by
   unfold lb;rw[if_pos (by omega),ya hk,sa (by omega)]
   simp_all) (by grind[lb])
  simp_all
 have c:ca (Ab l 3 (i:Int) nm) 0=some (if(l.e.take i).any (λx=>decide (x.j=nm))=true then .inr true else .inl ()):=Ir a hi (λk hk=>by
  unfold Ab;rw[if_pos (by omega),ya hk,sa (by omega)]
  grind) (by grind[Ab])
 rw[FP h (by omega),h2,c]
 grind
theorem BG{l:List GEnum}(hl:l.length<=1048576) (nm:ByteArray):Kp l nm=some (l.any λx=>decide (x.j=nm)):=by
 have h:=Au (l:=l) (p:=λx=>uh x nm) (λx=>decide (x.j=nm)) (λx _=>rfl) (by omega) (o:=ca (Nd l (λx=>uh x nm)) 0) rfl;have h':ib l (λx=>uh x nm)=some (l.any λx=>decide (x.j=nm)):=h
 grind[Kp]
theorem cK{l:List GTable}(hl:l.length<=1048576) (nm:ByteArray):Hq l nm=some (l.any λx=>decide (x.j=nm)):=by
 have h:=Au (l:=l) (p:=λx=>fg x nm) (λx=>decide (x.j=nm)) (λx _=>rfl) (by omega) (o:=ca (jd l (λx=>fg x nm)) 0) rfl;have h':Xa l (λx=>fg x nm)=some (l.any λx=>decide (x.j=nm)):=h
 grind[Hq]
theorem cU{l:List GScope}(hl:l.length<=1048576) (y:GScope):Wa l (λx=>fe x y)=some (l.any λx=>decide (x.j=y.j)):=
 Au (l:=l) (p:=λx=>fe x y) (λx=>decide (x.j=y.j)) (λx _=>rfl) (by omega) (o:=ca (bd l (λx=>fe x y)) 0) rfl
theorem aK{l:List GField}(hl:l.length<=1048576) (y:GField):Ma l (λx=>Uc x y)=some (l.any λx=>decide (x.j=y.j)):=
 Au (l:=l) (p:=λx=>Uc x y) (λx=>decide (x.j=y.j)) (λx _=>rfl) (by omega) (o:=ca (Zc l (λx=>Uc x y)) 0) rfl
theorem CY{l:List GRule}(hl:l.length<=1048576) (y:GRule):jb l (λx=>ef x y)=some (l.any λx=>decide (x.j=y.j)):=
 Au (l:=l) (p:=λx=>ef x y) (λx=>decide (x.j=y.j)) (λx _=>rfl) (by omega) (o:=ca (Od l (λx=>ef x y)) 0) rfl
theorem l6{l:List ByteArray}(hl:l.length<=1048576) (y:ByteArray):me l y=some (l.any λx=>decide (x=y)):=by
 have h:=Au (l:=l) (p:=λx=>some (decide (y=x))) (λx=>decide (x=y)) (λx _=>by grind) (by omega) (o:=ca (pe l y) 0) (by
  unfold pe;simp)
 exact h
noncomputable def oI(x:GEnum) (k:Nat):Option (Int×Int):=
 match x.r[k]? with
 |some m=>if xm m=false then some (2,100+(k:Int))else if((x.r.take k).any λy=>decide (y=m))=true then some (7,100+(k:Int))else none
 |none=>none
noncomputable def Ug(l:GLaw) (i:Nat) (x:GEnum):Int×Int:=
 if xm x.j=false then(2,0)else if((l.q.take i).any λy=>decide (y.j=x.j))=true then(7,0)
 else if x.r.length=0 then(5,0)else if 16<x.r.length then(4,116)else(ff (oI x) x.r.length).getD (0,0)
theorem memF_ne{x:GEnum}(h:oI x k=some v):v.1≠0:=by
 grind[oI]
theorem kI{l:GLaw}(h:LawOk l) (hi:i<l.q.length):lr l (i:Int) l.q[i]=some (Ug l i l.q[i]):=by
 obtain⟨g1,g2⟩:=h.e _ (Iaa hi);have hne:=h.ne;generalize l.q[i]=x at g1 g2⊢;unfold lr Ug;rw[Ls (by omega),zaa];cases xm x.j
 .rfl
 simp only[Eaa,Raa,if_false];rw[Hy (by omega),zaa,BG (by grind),zaa];cases (l.q.take i).any λy=>decide (y.j=x.j)
 .simp only[Eaa,Raa,if_false];by_cases b:x.r.length=0
  .simp_all
  rw[if_neg (by omega),if_neg b];by_cases a:16<x.r.length
  .grind
  rw[if_neg (by omega),if_neg a];have hl:ca (zm x) 0=some (Eb () (ff (oI x) x.r.length)):=
   xb (λk=>(k:Int)) _ _ _ (λk hk _=>by
    have hm:=g2 _ (Iaa hk);unfold zm oI;rw[if_pos (by omega),ya hk,zaa,Ls (by omega),zaa,Baa hk,wid (n:=100+(k:Int)) (by omega) (by omega),sa (by omega),Hy (by omega),zaa,l6 (by grind),zaa];simp only;cases xm x.r[k]
    .rfl
    .simp only[Eaa,Raa,if_false];cases (x.r.take k).any λy=>decide (y=x.r[k])<;>rfl) (λ_=>by grind[zm])
  rw[hl];cases ff (oI x) x.r.length<;>rfl
 .rfl
theorem AF{l:GLaw}(h:LawOk l) (hi:i<l.q.length):qo l (i:Int)=some (if(Ug l i l.q[i]).1=0 then⟨0,0,0,0⟩else⟨(Ug l i l.q[i]).1,1,i,(Ug l i l.q[i]).2⟩):=by
 obtain⟨g1,g2⟩:=h.e _ (Iaa hi);have hne:=h.ne;unfold qo Ug;rw[ya hi,zaa];generalize l.q[i]=x at g1 g2⊢;rw[Rp (by omega),zaa,taken1 h (by omega),zaa];cases xm x.j
 .rfl
 simp only[Eaa,Raa,if_false];cases (l.q.take i).any λy=>decide (y.j=x.j)
 .simp only[Eaa,Raa,if_false];by_cases m:x.r.length=0
  .simp_all
  rw[if_neg (by omega),if_neg m];by_cases c:16<x.r.length
  .grind
  rw[if_neg (by omega),if_neg c];have hl:ca (sj (i:Int) x) (0,0)=some (Eb () ((ff (oI x) x.r.length).map λv=>(⟨v.1,1,(i:Int),v.2⟩:GLawError))):=by
   have d:(ff (oI x) x.r.length).map (λv=>(⟨v.1,1,(i:Int),v.2⟩:GLawError))=ff (λk=>(oI x k).map λv=>(⟨v.1,1,(i:Int),v.2⟩:GLawError)) x.r.length:=by
    cases b:ff (oI x) x.r.length with
    |none=>grind[ab]
    |some v=>grind[Pa]
   rw[d];refine xb (λk=>((if k=0 then 0 else 100+((k-1:Nat):Int)),(k:Int))) _ _ _ (λk hk _=>?_) (λ_=>by grind[sj]) (by rfl);have hm:=g2 _ (Iaa hk);unfold sj oI;simp only;rw[if_pos (by omega),ya hk,zaa,Rp (by omega),zaa,Baa hk,wid (n:=100+(k:Int)) (by omega) (by omega),sa (by omega)];have f:ca (rj (i:Int) x (k:Int) x.r[k]) 0=some (Eb () (ff (λj=>if((x.r.take k)[j]?.any λy=>decide (y=x.r[k]))=true then some (Ex.ret (⟨7,1,(i:Int),100+(k:Int)⟩:GLawError))else none) (x.r.take k).length)):=
    xb (λj=>(j:Int)) _ _ _ (λj hj _=>by
     have hjk:j<k:=by grind
     unfold rj;rw[if_pos (by omega),ya (by omega),zaa,Baa hj,wid (n:=100+(k:Int)) (by omega) (by omega),sa (by omega)];simp only[rac,ead,decide_eq_true_eq];by_cases he:x.r[j]=x.r[k]
     .rw[if_pos he,if_pos he];rfl
     .rw[if_neg he,if_neg he];rfl) (λ_=>by
      grind[rj])
   dsimp only;cases xm x.r[k]
   .rfl
   simp only[Eaa,Raa,if_false];rw[f,zaa,←Ku (l:=x.r.take k) (q:=λy=>decide (y=x.r[k])) (g:=λ_=>(Ex.ret (⟨7,1,(i:Int),100+(k:Int)⟩:GLawError):Ex (Int×Int) Unit GLawError))]
   cases b:ff (λj=>if((x.r.take k)[j]?.any λy=>decide (y=x.r[k]))=true then some (Ex.ret (⟨7,1,(i:Int),100+(k:Int)⟩:GLawError):Ex (Int×Int) Unit GLawError)else none) (x.r.take k).length with
   |none=>simp[Eb,aD]
   |some v=>
    obtain⟨j,j1,a,-⟩:=Pa.1 b;split at a
    .injection a with a;subst a;rfl
    simp_all
  rw[hl]
  cases b:ff (oI x) x.r.length with
  |none=>rfl
  |some v=>
   grind[Eb,Pa,memF_ne]
 .rfl
noncomputable def np(l:GLaw) (i:Nat) (x:GTable):Int×Int:=
 if xm x.j=false then(2,0)
 else if((l.q.any λy=>decide (y.j=x.j)) || (l.Tables.take i).any λy=>decide (y.j=x.j))=true then(7,0)
 else if(Es x l.q).2=0 then(0,0)else((Es x l.q).2,if(Es x l.q).1 = -1 then 0 else 100+(Es x l.q).1)
theorem rL(t:GTable) (e:List GEnum):-1<=(Es t e).1/\(Es t e).1<=64:=by
 unfold Es;split
 .simp
 .split
  .simp
  .cases h:ff (aH t e) t.Rows.length with
   |none=>simp
   |some v=>
    grind[aH,Pa]
theorem LY{l:GLaw}(h:LawOk l):ca (cj l) 0=some (Eb () (ff (λi=>match l.Tables[i]? with|some x=>if(np l i x).1=0 then none else some (⟨(np l i x).1,2,(i:Int),(np l i x).2⟩:GLawError)|none=>none) l.Tables.length)):=by
 have hnt:=h.nt;have a:=h.ne;refine xb (λk=>(k:Int)) _ _ _ (λi hi _=>?_) (λ_=>by grind[cj]);have hx:=h.t _ (Iaa hi);unfold cj np;rw[if_pos (by omega),ya hi,zaa,Baa hi,sa (by omega)];simp only;generalize l.Tables[i]=x at hx⊢;have hr:=rL x l.q;rw[fH,zaa,Ls (by omega),zaa,BG a,zaa,Hy (by omega),zaa,cK (by grind),wid (n:=100+(Es x l.q).1) (by omega) (by omega)]
 grind[aD]
theorem rE{l:GLaw}(h:LawOk l) (hi:i<l.Tables.length):Wm l (i:Int)=some (if(np l i l.Tables[i]).1=0 then⟨0,0,0,0⟩else⟨(np l i l.Tables[i]).1,2,i,(np l i l.Tables[i]).2⟩):=by
 have hnt:=h.nt;have hne:=h.ne;have hx:=h.t _ (Iaa hi);unfold Wm np;rw[ya hi,zaa];generalize l.Tables[i]=x at hx⊢;have hr:=rL x l.q;rw[Rp (by omega),zaa,taken2 h (by omega),zaa,QG,zaa,wid (n:=100+(Es x l.q).1) (by omega) (by omega)]
 grind
noncomputable def gx(l:GLaw) (f:GField) (a b:List GField):Int:=
 if xm f.j=false then 2 else if((a.any λy=>decide (y.j=f.j)) || b.any λy=>decide (y.j=f.j))=true then 7 else if la f.ai l.q=false then 8 else 0
theorem Fz{l:GLaw}{f:GField}{a b:List GField}(hf:f.j.size<=1048576) (ha:a.length<=1048576) (hb:b.length<=1048576):Am l f a b=some (gx l f a b):=by
 unfold Am gx;rw[Ls (by omega),zaa,aK ha,zaa,aK hb,Na,zaa]
 grind
theorem Tu{l:List GField}(hl:l.length<=1048576) (hk:k<=l.length) (nm:ByteArray):uj l (k:Int) nm=some ((l.take k).any λy=>decide (y.j=nm)):=by
 unfold uj;have b:ca (Xk l (k:Int) nm) 0=some (Eb () (ff (λi=>if((l.take k)[i]?.any λy=>decide (y.j=nm))=true then some true else none) (l.take k).length)):=
  xb (λi=>(i:Int)) _ _ _ (λi hi _=>by
   have hik:i<k:=by simp_all
   unfold Xk;rw[if_pos (by omega),zaa,decide_eq_true (by omega),if_pos rfl,ya (by omega),zaa,Baa hi,sa (by omega)];simp only[rac,ead,decide_eq_true_eq];by_cases he:l[i].j=nm
   .rw[if_pos he,if_pos he];rfl
   .rw[if_neg he,if_neg he];rfl) (λ_=>by
    simp_all[Xk])
 rw[b,←Ku (q:=λ(y:GField)=>decide (y.j=nm)) (g:=λ_=>true),zaa]
 cases h2:ff (λi=>if((l.take k)[i]?.any λy=>decide (y.j=nm))=true then some true else none) (l.take k).length with
 |none=>rfl
 |some v=>
  obtain⟨j,j1,a,-⟩:=Pa.1 h2;split at a
  .injection a with a;subst a;rfl
  simp_all
theorem iI{l:List GField}(hl:l.length<=1048576) {step:List GType×Int->Option (Ex (List GType×Int) (List GType) Unit)}
 (hstep:∀(a:List GType) (i:Nat) (hi:i<l.length),step (a,(i:Int))=((app 16 a [l[i].ai]).bind λx=>some (.go (x,aa .i64 ((i:Int)+1)))))
 (hend:∀a,step (a,(l.length:Int))=some (.brk a)):ca step (([]:List GType),0)=some (.inl (l.map (·.ai))):=by
 refine kf (λi=>((l.take i).map (·.ai),(i:Int))) l.length _ (λi hi=>?_) (by simp_all) (by simp)
 grind[uf,sa,Xaa]
theorem Nu{l:List GField}(hl:l.length<=1048576):dj l=some (l.map (·.ai)):=by
 unfold dj;rw[iI hl (step:=Hk l) (λa i hi=>by simp_all[Hk,ya]) (λa=>by grind[Hk])];rfl
def NF(l:GLaw) (s:GScope):GSignature:=
 if h:0<=s.z/\s.z<(l.e.length:Int)then⟨l.q,l.Tables,s.u.map (·.ai),s.d.map (·.ai),(l.e[s.z.toNat]'(by omega)).d.map (·.ai),true⟩
 else⟨l.q,l.Tables,s.u.map (·.ai),s.d.map (·.ai),[],false⟩
theorem su{l:GLaw}(h:LawOk l) (hi:i<l.e.length):Wf l (i:Int)=some (NF l l.e[i]):=by
 obtain⟨g1,g2,g3,-⟩:=h.s _ (Iaa hi);have gd:=g2.defs;unfold Wf NF;rw[ya hi,zaa];generalize l.e[i]=x at gd g3⊢;rw[Nu g3,zaa,Nu gd,zaa];by_cases hm:0<=x.z/\x.z<(l.e.length:Int)
 .have hd:=(h.s _ (Iaa (l:=l.e) (n:=x.z.toNat) (by omega))).2.1.defs
  simp_all[bh,Nu]
 grind
theorem zF{l:GLaw}(h:LawOk l) (hi:i<l.e.length):oo l (i:Int)=some (NF l l.e[i]):=by
 rw[←su h hi];unfold oo Wf;rw[if_pos (by omega),zaa,if_neg (by simp_all)];rfl
def PF(s:ByteArray) (i:Nat):Bool:=if h:i<s.size then decide (32<=(s[i].toNat:Int))&&decide ((s[i].toNat:Int)<=126)&&!((s[i].toNat:Int)==34)else true
def TU(s:ByteArray):Bool:=decide (s.size<=64)&&(ff (λi=>if PF s i=true then none else some false) s.size).isNone
theorem BF{s:ByteArray}(hs:s.size<=1048576):so s=some (TU s):=by
 unfold so TU;have a:ca (vj s) 0=some (Eb () (ff (λi=>if PF s i=true then none else some false) s.size)):=
  xb (λi=>(i:Int)) _ _ _ (λi hi _=>by
   unfold vj PF;rw[if_pos (by omega),JN hi,zaa,sa (by omega),dif_pos hi]
   grind[aD]) (λ_=>by grind[vj])
 rw[a]
 cases h2:ff (λi=>if PF s i=true then none else some false) s.size with
 |none=>
  grind[decide,Eb]
 |some v=>
  grind[Eb,Pa]
theorem RY{s:ByteArray}{c:UInt8}:s.data.toList.contains c=true↔∃i,∃h:i<s.size,s[i]=c:=by
 rw[List.contains_iff_mem];constructor
 .intro h;obtain⟨i,hi,he⟩:=Maa h;exact⟨i,by simpa using hi,by rw[←he];rfl⟩
 .rintro⟨i,hi,rfl⟩;exact Iaa (l:=s.data.toList) (n:=i) (by simp_all)
theorem lF{s:ByteArray}(hs:s.size<=1048576):Vn s=some (TU s):=by
 unfold Vn TU strings_Contains;rw[if_pos (show(Gaa #[34]).size=1 from rfl)];by_cases h64:64<s.size
 .grind
 rw[if_pos (by omega),decide_eq_true (p:=s.size<=64) (by omega)];have d:ca (fj s) 0=some (Eb () (ff (λi=>if(if h:i<s.size then decide (32<=(s[i].toNat:Int))&&decide ((s[i].toNat:Int)<=126)else true)=true then none else some false) s.size)):=
  xb (λi=>(i:Int)) _ _ _ (λi hi _=>by
   unfold fj;rw[if_pos (by omega),JN hi,zaa,sa (by omega),dif_pos hi]
   grind[aD]) (λ_=>by grind[fj])
 rw[d];simp only[zaa,Jab];have hc:=RY (s:=s) (c:=34);change (s.data.toList.contains ((Gaa #[34]).data.toList.headD 0))=true↔_ at hc;have h34:∀i (h:i<s.size),s[i]=34↔(s[i].toNat:Int)=34:=λi h=>by
  constructor
  .simp_all
  .intro he;apply UInt8.toNat_inj.1
   grind
 cases hq:s.data.toList.contains ((Gaa #[34]).data.toList.headD 0)
 .rw[hq]at hc;have hno:∀i (h:i<s.size),(s[i].toNat:Int)≠34:=λi h he=>by
   simp_all
  rw[if_neg (by simp)];have b:ff (λi=>if(if h:i<s.size then decide (32<=(s[i].toNat:Int))&&decide ((s[i].toNat:Int)<=126)else true)=true then none else some false) s.size=ff (λi=>if PF s i=true then none else some false) s.size:=by
   simp_all[PF]
  rw[b]
  cases h2:ff (λi=>if PF s i=true then none else some false) s.size with
  |none=>rfl
  |some v=>
   obtain⟨j,j1,a,-⟩:=Pa.1 h2;split at a
   .grind
   .injection a with a;subst a;rfl
 .obtain⟨i,hi,he⟩:=hc.1 hq;rw[if_pos rfl]
  cases h2:ff (λi=>if PF s i=true then none else some false) s.size with
  |some v=>rfl
  |none=>
   simp_all[PF,ab]
noncomputable def ZF(e:List GNode) (s:GSignature) (t:GType):Int:=
 if¬(Ky e s).2.2=0 then(Ky e s).2.2 else if¬((Ky e s).1.a=t.a/\(Ky e s).1.g=t.g)then 8 else 0
theorem JA(hN:∀n∈e,Kb n) (s:GSignature) (t:GType):Fo e s t=some (ZF e s t):=by
 grind[Fo,ZF,ZL]
theorem Ey(hN:∀n∈e,Kb n) (s:GSignature) (t:GType):Yj e s t=some (ZF e s t):=by
 grind[Yj,ZF,GK]
def cH(x:GScope) (k:Nat) (r:GRule):Nat:=((x.f.take k).filter λy=>decide (y.s=r.s)).length
theorem WW(x:GScope) (k:Nat) (r:GRule):cH x k r<=k:=by
 grind[cH]
theorem IN{r:GRule}(hk:k<x.f.length):cH x (k+1) r=if x.f[k].s=r.s then cH x k r+1 else cH x k r:=by
 unfold cH;rw[Xaa,Baa hk,uab,List.length_append]
 grind
def xK(x:GScope) (k:Nat) (r:GRule):Bool:=
 if r.ag = -1 then false else if r.ag<0 then true else if(k:Int)<=r.ag then true else match x.f[r.ag.toNat]? with|some q=>q.s !=r.s|none=>true
noncomputable def kC(x:GScope) (s:GSignature) (k:Nat) (r:GRule):Int:=
 if xm r.j=false then 2
 else if((x.f.take k).any λy=>decide (y.j=r.j))=true then 7
 else if r.s<0\/(x.d.length:Int)<=r.s then 6
 else if xK x k r=true then 9
 else if r.ao<0\/9<r.ao\/r.w.n<0\/r.w.To<=r.w.n\/109573<r.w.To then 3
 else if 8<=cH x k r then 4
 else if TU r.au=false then 2
 else if 0<r.ac.length/\ZF r.ac s ⟨1,0⟩≠0 then ZF r.ac s ⟨1,0⟩
 else ZF r.Value s (match x.d[r.s.toNat]? with|some d=>d.ai|none=>⟨0,0⟩)
structure RuleOk (r:GRule):Prop where
 nm:r.j.size<=1048576
 src:r.au.size<=1048576
 g:∀n∈r.ac,Kb n
 v:∀n∈r.Value,Kb n
variable {r:GRule}
theorem par_s(hk:k<x.f.length) (ho:o=(if¬r.ag = -1 then if¬r.ag<0 then if¬(k:Int)<=r.ag then(idx x.f r.ag).bind λy=>some (y.s !=r.s)else some true else some true else some false)):o=some (xK x k r):=by
 rw[ho];unfold xK;by_cases a:r.ag = -1
 .grind
 by_cases h2:r.ag<0
 .simp_all
 by_cases b:(k:Int)<=r.ag
 .simp_all
 .rw[if_pos a,if_pos h2,if_pos b,if_neg a,if_neg h2,if_neg b,bh (by omega) (by omega),zaa,Baa]
theorem lI(hx:ScOk x) (hk:k<x.f.length) (hr:RuleOk x.f[k]) (s:GSignature):mr x (k:Int) s=some (kC x s k x.f[k]):=by
 have hrl:=hx.rules;have hdl:=hx.defs;unfold mr kC;rw[ya hk,zaa,Hy (by omega),zaa];generalize hrr:x.f[k]=r at hr⊢;have hl:ca (Bm r (x.f.take k)) (0,0)=some (.inl ((cH x k r:Nat):Int)):=by
  refine kf (λi=>(((cH x i r:Nat):Int),(i:Int))) k _ (λi hi=>?_) ?_ rfl
  .have:=WW x i r;unfold Bm;simp only;rw[if_pos (by grind),ya (by grind),zaa,sa (by omega),sa (by omega),ead,IN (by omega)]
   grind
  grind[Bm]
 rw[hl,zaa];simp only;rw[Ls (by have:=hr.nm;omega),zaa,zaa,CY (by grind),zaa];cases xm r.j
 .rfl
 simp only[Raa,if_false];cases (x.f.take k).any λy=>decide (y.j=r.j)
 .simp only[Eaa,if_false];by_cases hd:r.s<0\/(x.d.length:Int)<=r.s
  .grind
  .rw[if_neg hd,if_pos (by omega),zaa,if_neg (by simp_all)];rw[par_s hk rfl,zaa];cases xK x k r
   .simp only[Eaa,if_false];by_cases hp:r.ao<0\/9<r.ao
    .grind
    .rw[if_pos (show¬r.ao<0 by omega),zaa,if_neg (by simp_all)];by_cases hv:r.w.n<0\/r.w.To<=r.w.n\/109573<r.w.To
     .grind
     .rw[if_pos (show¬r.w.n<0 by omega),if_pos (show¬r.w.To<=r.w.n by omega),zaa,if_neg (by simp_all),if_neg (show¬(r.ao<0\/9<r.ao\/r.w.n<0\/r.w.To<=r.w.n\/109573<r.w.To) by omega)];by_cases b:8<=cH x k r
      .grind
      rw[if_neg (by omega),if_neg b,lF hr.src,zaa];cases TU r.au
      .rfl
      simp only[Raa,if_false];have hi:idx x.d r.s=some (x.d[r.s.toNat]'(by omega)):=bh (by omega) (by omega);have a:x.d[r.s.toNat]?=some (x.d[r.s.toNat]'(by omega)):=Baa _;simp only[hi,a,JA hr.g,JA hr.v,zaa]
      grind
   .rfl
 .rfl
theorem pZ{v:GDateRange}:D0 v=false\/v.n=v.To↔v.n<0\/v.To<=v.n\/109573<v.To:=by
 grind[D0]
theorem w9{l:GLaw}(h:LawOk l) (hi:i<l.e.length) (hr:r∈l.e[i].f):RuleOk r:=by
 obtain⟨-,-,-,-,-,g⟩:=h.s _ (Iaa hi);obtain⟨a,b,c,d⟩:=g r hr;exact⟨a,b,c,d⟩
theorem CF{l:GLaw}(h:LawOk l) (hi:i<l.e.length) (hk:k<l.e[i].f.length):uo l (i:Int) (k:Int)=some (kC l.e[i] (NF l l.e[i]) k l.e[i].f[k]):=by
 have hr:=w9 h hi (Iaa hk);have hx:=(h.s _ (Iaa hi)).2.1;have d:=zF h hi;unfold uo;rw[ya hi,zaa];generalize l.e[i]=x at hk hr hx d⊢;have hrl:=hx.rules;have hdl:=hx.defs;rw[ya hk,zaa];unfold kC;generalize hrr:x.f[k]=r at hr⊢;rw[Rp (by have:=hr.nm;omega),zaa];cases xm r.j
 .rfl
 simp only[Raa,if_false];have hl:ca (wj (k:Int) x r) (0,0)=some (Eb ((cH x k r:Nat):Int) (ff (λi=>if((x.f.take k)[i]?.any λy=>decide (y.j=r.j))=true then some 7 else none) (x.f.take k).length)):=by
  refine xb (λi=>(((cH x i r:Nat):Int),(i:Int))) _ _ _ (λj hj _=>?_) (λ_=>?_) rfl
  .have hjk:j<k:=by grind
   have:=WW x j r;unfold wj;simp only;rw[if_pos (by omega),ya (by omega),zaa,sa (by omega),sa (by omega),Baa hj,IN (by omega)];simp only[rac,ead,decide_eq_true_eq];by_cases hn:x.f[j].j=r.j
   .rw[if_pos hn,if_pos hn];rfl
   .rw[if_neg hn,if_neg hn];by_cases hd:x.f[j].s=r.s
    .rw[if_pos hd,if_pos hd];rfl
    .rw[if_neg hd,if_neg hd];rfl
  grind[wj]
 rw[hl,zaa,←Ku (q:=λ(y:GRule)=>decide (y.j=r.j)) (g:=λ_=>(7:Int))]
 cases h2:ff (λi=>if((x.f.take k)[i]?.any λy=>decide (y.j=r.j))=true then some (7:Int)else none) (x.f.take k).length with
 |some v=>
  obtain⟨j,j1,a,-⟩:=Pa.1 h2;split at a
  .injection a with a;subst a;rfl
  simp_all
 |none=>
  simp only[Eb,Option.isSome_none,Eaa,if_false];by_cases hd:r.s<0\/(x.d.length:Int)<=r.s
  .grind
  .rw[if_neg hd,if_pos (by omega),zaa,if_neg (by simp_all)];rw[par_s hk rfl,zaa];cases xK x k r
   .simp only[Eaa,if_false,pv,zaa];have hb:=pZ (v:=r.w);by_cases hp:r.ao<0\/9<r.ao
    .grind
    .rw[if_pos (show¬r.ao<0 by omega),if_pos (show¬9<r.ao by omega)];by_cases hv:r.w.n<0\/r.w.To<=r.w.n\/109573<r.w.To
     .grind
     .have e:D0 r.w=true:=by
       simp_all
      have h2:¬r.w.n=r.w.To:=λhq=>hv (hb.1 (.inr hq));rw[if_pos e,zaa,if_neg (by simp_all),if_neg (show¬(r.ao<0\/9<r.ao\/r.w.n<0\/r.w.To<=r.w.n\/109573<r.w.To) by omega)];by_cases f:8<=cH x k r
      .grind
      rw[if_neg (by omega),if_neg f,BF hr.src,zaa];cases TU r.au
      .rfl
      simp only[Raa,if_false];have c:idx x.d r.s=some (x.d[r.s.toNat]'(by omega)):=bh (by omega) (by omega);have b:x.d[r.s.toNat]?=some (x.d[r.s.toNat]'(by omega)):=Baa _;simp only[d,c,b,Ey hr.g,Ey hr.v,zaa]
      grind
   .rfl
noncomputable def w6(l:GLaw) (x:GScope) (k:Nat):Option (Int×Int):=
 match x.u[k]? with
 |some f=>if gx l f (x.u.take k) []=0 then none else some (gx l f (x.u.take k) [],100+(k:Int))
 |none=>none
noncomputable def fI(l:GLaw) (x:GScope) (k:Nat):Option (Int×Int):=
 match x.d[k]? with
 |some f=>if gx l f x.u (x.d.take k)=0 then none else some (gx l f x.u (x.d.take k),200+(k:Int))
 |none=>none
noncomputable def aL(l:GLaw) (x:GScope) (k:Nat):Option (Int×Int):=
 match x.f[k]? with
 |some r=>if kC x (NF l x) k r=0 then none else some (kC x (NF l x) k r,300+(k:Int))
 |none=>none
open Classical in
noncomputable def dI(x:GScope) (k:Nat):Option (Int×Int):=if Way x (k:Int) (k:Int)then some (9,200+(k:Int))else none
def Xy(l:GLaw) (i:Nat) (x:GScope):Bool:=
 if x.z = -1 then false else if x.z<0 then true else if(i:Int)<=x.z then true else match l.e[x.z.toNat]? with|some q=>q.z !=-1|none=>true
noncomputable def Ej(l:GLaw) (i:Nat) (x:GScope):Int×Int:=
 if xm x.j=false then(2,0)
 else if((l.q.any λy=>decide (y.j=x.j)) || ((l.Tables.any λy=>decide (y.j=x.j)) || (l.e.take i).any λy=>decide (y.j=x.j)))=true then(7,0)
 else if Xy l i x=true then(6,0)
 else if 12<x.u.length then(4,112)
 else if 12<x.d.length then(4,212)
 else match ff (w6 l x) x.u.length with
  |some v=>v
  |none=>match ff (fI l x) x.d.length with
   |some v=>v
   |none=>match ff (aL l x) x.f.length with
    |some v=>v
    |none=>(ff (dI x) x.d.length).getD (0,0)
theorem S6{l:GLaw}(hi:i<l.e.length) (ho:o=(if¬x.z = -1 then if¬x.z<0 then if¬(i:Int)<=x.z then(idx l.e x.z).bind λy=>some (y.z !=-1)else some true else some true else some false)):o=some (Xy l i x):=by
 rw[ho];unfold Xy;by_cases a:x.z = -1
 .grind
 by_cases h2:x.z<0
 .simp_all
 by_cases b:(i:Int)<=x.z
 .simp_all
 .rw[if_pos a,if_pos h2,if_pos b,if_neg a,if_neg h2,if_neg b,bh (by omega) (by omega),zaa,Baa]
theorem QY{l:GLaw}(hi:i<l.e.length) (ho:o=(if¬x.z = -1 then if¬x.z<0 then if¬(i:Int)<=x.z then(idx (l.e.take i) x.z).bind λy=>some (y.z !=-1)else some true else some true else some false)):o=some (Xy l i x):=by
 rw[ho];unfold Xy;by_cases a:x.z = -1
 .grind
 by_cases h2:x.z<0
 .simp_all
 by_cases b:(i:Int)<=x.z
 .simp_all
 .rw[if_pos a,if_pos h2,if_pos b,if_neg a,if_neg h2,if_neg b,bh (by omega) (by grind),zaa,Baa (by omega),ead]
theorem FG{l:GLaw}(h:LawOk l) (hi:i<l.e.length):Jp l (i:Int)=some (Ej l i l.e[i]):=by
 obtain⟨g1,g2,g3,g4,g5,g⟩:=h.s _ (Iaa hi);have c:=h.ne;have d:=h.nt;have hns:=h.ns;have f:=su h hi;have b:∀r∈l.e[i].f,RuleOk r:=λr hr=>w9 h hi hr;unfold Jp Ej;rw[ya hi,zaa,Hy (by omega),zaa];generalize l.e[i]=x at g1 g2 g3 g4 g5 g f b⊢;have gd:=g2.defs;have gr:=g2.rules;rw[BG c,zaa,cK d,cU (by grind),Ls (by omega)];have e:(if(l.q.any λy=>decide (y.j=x.j))=false then(some (l.Tables.any λy=>decide (y.j=x.j))).bind λw=>if w=false then(some ((l.e.take i).any λy=>decide (y.j=x.j))).bind λz=>some z else some true else some true) =
  some ((l.q.any λy=>decide (y.j=x.j)) || ((l.Tables.any λy=>decide (y.j=x.j)) || (l.e.take i).any λy=>decide (y.j=x.j))):=by
  grind
 rw[e,zaa,zaa];cases xm x.j
 .rfl
 simp only[Raa,if_false];cases (l.q.any λy=>decide (y.j=x.j)) || ((l.Tables.any λy=>decide (y.j=x.j)) || (l.e.take i).any λy=>decide (y.j=x.j))
 .simp only[Eaa,if_false];rw[QY (l:=l) (x:=x) hi rfl,zaa];cases Xy l i x
  .simp only[Eaa,if_false];by_cases m:12<x.u.length
   .grind
   rw[if_neg (by omega),if_neg m];by_cases j:12<x.d.length
   .grind
   rw[if_neg (by omega),if_neg j];have o:ca (Gk l x) 0=some (Eb () (ff (w6 l x) x.u.length)):=
    xb (λk=>(k:Int)) _ _ _ (λk hk _=>by
     unfold Gk w6;rw[if_pos (by omega),ya hk,zaa,Hy (by omega),zaa,Fz (g4 _ (Iaa hk)) (by grind) (by simp),zaa,Baa hk,wid (n:=100+(k:Int)) (by omega) (by omega),sa (by omega)];dsimp only;by_cases a:gx l x.u[k] (x.u.take k) []=0
     .rw[if_neg (by omega),if_pos a];rfl
     .rw[if_pos a,if_neg a];rfl) (λ_=>by grind[Gk])
   have p:ca (Fk l x) 0=some (Eb () (ff (fI l x) x.d.length)):=
    xb (λk=>(k:Int)) _ _ _ (λk hk _=>by
     unfold Fk fI;rw[if_pos (by omega),ya hk,zaa,Hy (by omega),zaa,Fz (g5 _ (Iaa hk)) g3 (by grind),zaa,Baa hk,wid (n:=200+(k:Int)) (by omega) (by omega),sa (by omega)];dsimp only;by_cases a:gx l x.d[k] x.u (x.d.take k)=0
     .rw[if_neg (by omega),if_pos a];rfl
     .rw[if_pos a,if_neg a];rfl) (λ_=>by grind[Fk])
   have t:ca (Ek x (NF l x)) 0=some (Eb () (ff (aL l x) x.f.length)):=
    xb (λk=>(k:Int)) _ _ _ (λk hk _=>by
     unfold Ek aL;rw[if_pos (by omega),lI g2 hk (b _ (Iaa hk)),zaa,Baa hk,wid (n:=300+(k:Int)) (by omega) (by omega),sa (by omega)];dsimp only;by_cases a:kC x (NF l x) k x.f[k]=0
     .rw[if_neg (by omega),if_pos a];rfl
     .rw[if_pos a,if_neg a];rfl) (λ_=>by grind[Ek])
   have u:ca (Dk x) 0=some (Eb () (ff (dI x) x.d.length)):=
    xb (λk=>(k:Int)) _ _ _ (λk hk _=>by
     obtain⟨q,q1,q2,q3⟩:=pk g2 (k:Int);unfold Dk dI;rw[if_pos (by omega),q1,zaa,iO (by omega),zaa,wid (n:=200+(k:Int)) (by omega) (by omega),sa (by omega)];by_cases a:Way x (k:Int) (k:Int)
     .rw[if_pos (by simp_all),if_pos a];rfl
     .rw[if_neg (by simp_all),if_neg a];rfl) (λ_=>by grind[Dk])
   rw[o,zaa]
   cases ff (w6 l x) x.u.length with
   |some v=>rfl
   |none=>
    simp only[Eb];rw[p,zaa]
    cases ff (fI l x) x.d.length with
    |some v=>rfl
    |none=>
     simp only[Eb];rw[f,zaa,t,zaa]
     cases ff (aL l x) x.f.length with
     |some v=>rfl
     |none=>
      simp only[Eb];rw[u,zaa];cases ff (dI x) x.d.length<;>rfl
  .rfl
 .rfl
theorem yG{β:Type}{f:Nat->Option α}(g:α->β) :ff (λk=>(f k).map g) n=(ff f n).map g:=by
 cases h1:ff f n with
 |none=>grind[ab]
 |some v=>grind[Pa]
def tP(i:Nat) (v:Int×Int):GLawError:=⟨v.1,3,(i:Int),v.2⟩
theorem eU{l:GLaw}(h:w6 l x k=some v):v.1≠0:=by
 grind[w6]
theorem kO{l:GLaw}(h:fI l x k=some v):v.1≠0:=by
 grind[fI]
theorem YO{l:GLaw}(h:aL l x k=some v):v.1≠0:=by
 grind[aL]
theorem cycF_ne(h:dI x k=some v):v.1≠0:=by
 grind[dI]
theorem yD{f:Nat->Option (Int×Int)}(hf:∀{k v},f k=some v->v.1≠0) (h:ff f n=some v):v.1≠0:=by
 grind[Pa]
theorem pE{l:GLaw}(h:LawOk l) (hi:i<l.e.length):Rm l (i:Int)=some (match ff (w6 l l.e[i]) l.e[i].u.length with
 |some v=>tP i v
 |none=>match ff (fI l l.e[i]) l.e[i].d.length with
  |some v=>tP i v
  |none=>⟨0,0,0,0⟩):=by
 obtain⟨g1,g2,g3,g4,g5,a⟩:=h.s _ (Iaa hi);unfold Rm;rw[ya hi,zaa];generalize l.e[i]=x at g1 g2 g3 g4 g5 a⊢;have gd:=g2.defs;have l1:ca (Di l (i:Int) x) 0=some (Eb () ((ff (w6 l x) x.u.length).map (tP i))):=by
  rw[←yG];exact xb (λk=>(k:Int)) _ _ _ (λk hk _=>by
   have hf:=g4 _ (Iaa hk);unfold Di w6 gx;rw[if_pos (by omega),ya hk,zaa,Rp (by omega),zaa,Tu g3 (by omega),zaa,fb,zaa,Baa hk,wid (n:=100+(k:Int)) (by omega) (by omega),sa (by omega)];dsimp only;generalize x.u[k]=f;cases xm f.j
   .rfl
   cases (x.u.take k).any λy=>decide (y.j=f.j)
   .cases la f.ai l.q<;>rfl
   .rfl) (λ_=>by grind[Di])
 have l2:ca (Ai l (i:Int) x) 0=some (Eb () ((ff (fI l x) x.d.length).map (tP i))):=by
  rw[←yG];exact xb (λk=>(k:Int)) _ _ _ (λk hk _=>by
   have hf:=g5 _ (Iaa hk);unfold Ai fI gx;rw[if_pos (by omega),ya hk,zaa,Rp (by omega),zaa,Tu g3 (Paa _),zaa,Tu gd (by omega),fb,zaa,Baa hk,wid (n:=200+(k:Int)) (by omega) (by omega),sa (by omega),tac];dsimp only;generalize x.d[k]=f;cases xm f.j
   .rfl
   cases x.u.any λy=>decide (y.j=f.j)
   .cases (x.d.take k).any λy=>decide (y.j=f.j)
    .cases la f.ai l.q<;>rfl
    .rfl
   .rfl) (λ_=>by grind[Ai])
 grind[Eb]
theorem qE{l:GLaw}(h:LawOk l) (hi:i<l.e.length):Vm l (i:Int)=some (if(Ej l i l.e[i]).1=0 then⟨0,0,0,0⟩else tP i (Ej l i l.e[i])):=by
 obtain⟨g1,g2,g3,g4,g5,z⟩:=h.s _ (Iaa hi);have hne:=h.ne;have hnt:=h.nt;have hns:=h.ns;have t:=pE h hi;have w:=λ{k:Nat} (hk:k<l.e[i].f.length)=>CF h hi hk;unfold Vm Ej;rw[ya hi,zaa];generalize l.e[i]=x at g1 g2 g3 g4 g5 z t w⊢;have gd:=g2.defs;have gr:=g2.rules;rw[Rp (by omega),zaa,taken3 h (by omega),zaa];cases xm x.j
 .rfl
 simp only[Raa,if_false];cases (l.q.any λy=>decide (y.j=x.j)) || ((l.Tables.any λy=>decide (y.j=x.j)) || (l.e.take i).any λy=>decide (y.j=x.j))
 .simp only[Eaa,if_false];rw[S6 (l:=l) (x:=x) hi rfl,zaa];cases Xy l i x
  .simp only[Eaa,if_false];by_cases u:12<x.u.length
   .rw[if_pos (by omega),if_pos u];rfl
   rw[if_neg (by omega),if_neg u];by_cases r:12<x.d.length
   .rw[if_pos (by omega),if_pos r];rfl
   rw[if_neg (by omega),if_neg r,t,zaa];have B:ca (Dh l (i:Int) x) 0=some (Eb () ((ff (aL l x) x.f.length).map (tP i))):=by
    rw[←yG];exact xb (λk=>(k:Int)) _ _ _ (λk hk _=>by
     unfold Dh aL;rw[if_pos (by omega),w hk,zaa,Baa hk,wid (n:=300+(k:Int)) (by omega) (by omega),sa (by omega)];dsimp only;by_cases p:kC x (NF l x) k x.f[k]=0
     .rw[if_neg (by omega),if_pos p];rfl
     .rw[if_pos p,if_neg p];rfl) (λ_=>by grind[Dh])
   have C:ca (Ch (i:Int) x) 0=some (Eb () ((ff (dI x) x.d.length).map (tP i))):=by
    rw[←yG];exact xb (λk=>(k:Int)) _ _ _ (λk hk _=>by
     have E:=λy=>yy (s:=x) (d:=(k:Int)) (y:=y);have q2:=(Jy x (k:Int) x.d.length).len;have D:ca (Ei (i:Int) (k:Int) (MC x (k:Int) x.d.length)) 0=some (Eb () (ff (λj=>if((MC x (k:Int) x.d.length)[j]?.any λy=>decide (y=(k:Int)))=true then some (Ex.ret (tP i (9,200+(k:Int))))else none) (MC x (k:Int) x.d.length).length)):=
      xb (λj=>(j:Int)) _ _ _ (λj hj _=>by
       unfold Ei;rw[if_pos (by omega),ya hj,zaa,Baa hj,wid (n:=200+(k:Int)) (by omega) (by omega),sa (by omega)];simp only[rac,decide_eq_true_eq];by_cases he:(MC x (k:Int) x.d.length)[j]=(k:Int)
       .rw[if_pos he,if_pos he];rfl
       .rw[if_neg he,if_neg he];rfl) (λ_=>by grind[Ei])
     unfold Ch dI;rw[if_pos (by omega),Jn g2,zaa,D,zaa,sa (by omega)];have a:=Ku (l:=MC x (k:Int) x.d.length) (q:=λy=>decide (y=(k:Int))) (g:=λ_=>(Ex.ret (tP i (9,200+(k:Int))):Ex Int Unit GLawError))
     cases h2:ff (λj=>if((MC x (k:Int) x.d.length)[j]?.any λy=>decide (y=(k:Int)))=true then some (Ex.ret (tP i (9,200+(k:Int))):Ex Int Unit GLawError)else none) (MC x (k:Int) x.d.length).length with
     |none=>
      rw[h2]at a;rw[if_neg]
      .rfl
      grind
     |some v=>
      rw[h2]at a;obtain⟨y,A,hyk⟩:=aae.1 a.symm;have:y=(k:Int):=by simp_all
      subst this;rw[if_pos ((E _).1 A)];obtain⟨j,-,b,-⟩:=Pa.1 h2;split at b
      .injection b with b;subst b;rfl
      simp_all) (λ_=>by grind[Ch])
   cases c:ff (w6 l x) x.u.length with
   |some v=>
    have:=yD (f:=w6 l x) eU c
    simp_all[tP]
   |none=>
    dsimp only
    cases e:ff (fI l x) x.d.length with
    |some v=>
     have:=yD (f:=fI l x) kO e
     simp_all[tP]
    |none=>
     dsimp only;rw[if_neg (by simp),B]
     cases m:ff (aL l x) x.f.length with
     |some v=>
      have:=yD (f:=aL l x) YO m
      simp_all[Eb]
     |none=>
      simp only[Option.map_none,Eb,zaa];rw[C]
      cases o:ff (dI x) x.d.length with
      |some v=>
       have:=yD (f:=dI x) cycF_ne o
       simp_all[Eb]
      |none=>rfl
  .rfl
 .rfl
noncomputable def cn(l:GLaw):GLawError:=
 if 8<l.q.length then⟨4,1,8,0⟩
 else match ff (λi=>match l.q[i]? with|some x=>if(Ug l i x).1=0 then none else some (⟨(Ug l i x).1,1,(i:Int),(Ug l i x).2⟩:GLawError)|none=>none) l.q.length with
  |some v=>v
  |none=>
   if 8<l.Tables.length then⟨4,2,8,0⟩
   else match ff (λi=>match l.Tables[i]? with|some x=>if(np l i x).1=0 then none else some (⟨(np l i x).1,2,(i:Int),(np l i x).2⟩:GLawError)|none=>none) l.Tables.length with
    |some v=>v
    |none=>
     if 4<l.e.length then⟨4,3,4,0⟩
     else(ff (λi=>match l.e[i]? with|some x=>if(Ej l i x).1=0 then none else some (tP i (Ej l i x))|none=>none) l.e.length).getD ⟨0,0,0,0⟩
theorem EC{f:Nat->Option GLawError}(hf:∀{k v},f k=some v->v.Code≠0) {v:GLawError}(h:ff f n=some v):v.Code≠0:=by
 grind[Pa]
theorem KT{l:GLaw}{v:GLawError}(h:(match l.q[k]? with|some x=>if(Ug l k x).1=0 then none else some (⟨(Ug l k x).1,1,(k:Int),(Ug l k x).2⟩:GLawError)|none=>none)=some v):v.Code≠0:=by
 grind
theorem UU{l:GLaw}{v:GLawError}(h:(match l.Tables[k]? with|some x=>if(np l k x).1=0 then none else some (⟨(np l k x).1,2,(k:Int),(np l k x).2⟩:GLawError)|none=>none)=some v):v.Code≠0:=by
 grind
theorem ym{l:GLaw}(h:LawOk l):xn l=some (cn l):=by
 have hne:=h.ne;have hnt:=h.nt;have hns:=h.ns;have le:ca (Bk l) 0=some (Eb () (ff (λi=>match l.q[i]? with|some x=>if(Ug l i x).1=0 then none else some (⟨(Ug l i x).1,1,(i:Int),(Ug l i x).2⟩:GLawError)|none=>none) l.q.length)):=
  xb (λk=>(k:Int)) _ _ _ (λk hk _=>by
   unfold Bk;rw[if_pos (by omega),ya hk,zaa,kI h hk,zaa,Baa hk,sa (by omega)];dsimp only;by_cases a:(Ug l k l.q[k]).1=0
   .rw[if_neg (by omega),if_pos a];rfl
   .rw[if_pos a,if_neg a];rfl) (λ_=>by grind[Bk])
 have ls:ca (bj l) 0=some (Eb () (ff (λi=>match l.e[i]? with|some x=>if(Ej l i x).1=0 then none else some (tP i (Ej l i x))|none=>none) l.e.length)):=
  xb (λk=>(k:Int)) _ _ _ (λk hk _=>by
   unfold bj;rw[if_pos (by omega),FG h hk,zaa,Baa hk,sa (by omega)];dsimp only;by_cases a:(Ej l k l.e[k]).1=0
   .rw[if_neg (by omega),if_pos a];rfl
   .rw[if_pos a,if_neg a];rfl) (λ_=>by grind[bj])
 unfold xn Gt Pr Nr cn;by_cases b:8<l.q.length
 .grind
 rw[if_neg (by omega),if_neg b,le]
 cases c:ff (λi=>match l.q[i]? with|some x=>if(Ug l i x).1=0 then none else some (⟨(Ug l i x).1,1,(i:Int),(Ug l i x).2⟩:GLawError)|none=>none) l.q.length with
 |some v=>
  have:=EC (f:=λi=>match l.q[i]? with|some x=>if(Ug l i x).1=0 then none else some (⟨(Ug l i x).1,1,(i:Int),(Ug l i x).2⟩:GLawError)|none=>none) KT c
  simp_all[Eb]
 |none=>
  simp only[Eb,zaa];rw[if_neg (by simp)];by_cases b:8<l.Tables.length
  .grind
  rw[if_neg (by omega),if_neg b,LY h]
  cases d:ff (λi=>match l.Tables[i]? with|some x=>if(np l i x).1=0 then none else some (⟨(np l i x).1,2,(i:Int),(np l i x).2⟩:GLawError)|none=>none) l.Tables.length with
  |some v=>
   have:=EC (f:=λi=>match l.Tables[i]? with|some x=>if(np l i x).1=0 then none else some (⟨(np l i x).1,2,(i:Int),(np l i x).2⟩:GLawError)|none=>none) UU d
   simp_all[Eb]
  |none=>
   simp only[Eb,zaa];rw[if_neg (by simp)];by_cases b:4<l.e.length
   .grind
   rw[if_neg (by omega),if_neg b,ls];cases ff (λi=>match l.e[i]? with|some x=>if(Ej l i x).1=0 then none else some (tP i (Ej l i x))|none=>none) l.e.length<;>rfl
theorem Uz{l:GLaw}(h:LawOk l):bq l=some (cn l):=by
 have hne:=h.ne;have hnt:=h.nt;have hns:=h.ns;have le:ca (Wk l) 0=some (Eb () (ff (λi=>match l.q[i]? with|some x=>if(Ug l i x).1=0 then none else some (⟨(Ug l i x).1,1,(i:Int),(Ug l i x).2⟩:GLawError)|none=>none) l.q.length)):=
  xb (λk=>(k:Int)) _ _ _ (λk hk _=>by
   unfold Wk;rw[if_pos (by omega),AF h hk,zaa,Baa hk,sa (by omega)];dsimp only;by_cases a:(Ug l k l.q[k]).1=0
   .rw[if_pos a,if_neg (by simp),if_pos a];rfl
   .rw[if_neg a,if_pos (by omega),if_neg a];rfl) (λ_=>by grind[Wk])
 have lt:ca (Vk l) 0=some (Eb () (ff (λi=>match l.Tables[i]? with|some x=>if(np l i x).1=0 then none else some (⟨(np l i x).1,2,(i:Int),(np l i x).2⟩:GLawError)|none=>none) l.Tables.length)):=
  xb (λk=>(k:Int)) _ _ _ (λk hk _=>by
   unfold Vk;rw[if_pos (by omega),rE h hk,zaa,Baa hk,sa (by omega)];dsimp only;by_cases a:(np l k l.Tables[k]).1=0
   .rw[if_pos a,if_neg (by simp),if_pos a];rfl
   .rw[if_neg a,if_pos (by omega),if_neg a];rfl) (λ_=>by grind[Vk])
 have ls:ca (Uk l) 0=some (Eb () (ff (λi=>match l.e[i]? with|some x=>if(Ej l i x).1=0 then none else some (tP i (Ej l i x))|none=>none) l.e.length)):=
  xb (λk=>(k:Int)) _ _ _ (λk hk _=>by
   unfold Uk;rw[if_pos (by omega),qE h hk,zaa,Baa hk,sa (by omega)];dsimp only;by_cases a:(Ej l k l.e[k]).1=0
   .rw[if_pos a,if_neg (by simp),if_pos a];rfl
   .rw[if_neg a,if_pos (by grind[tP]),if_neg a];rfl) (λ_=>by grind[Uk])
 unfold bq cn;by_cases b:8<l.q.length
 .grind
 rw[if_neg (by omega),if_neg b,le]
 cases ff (λi=>match l.q[i]? with|some x=>if(Ug l i x).1=0 then none else some (⟨(Ug l i x).1,1,(i:Int),(Ug l i x).2⟩:GLawError)|none=>none) l.q.length with
 |some v=>rfl
 |none=>
  simp only[Eb,zaa];by_cases b:8<l.Tables.length
  .grind
  rw[if_neg (by omega),if_neg b,lt]
  cases ff (λi=>match l.Tables[i]? with|some x=>if(np l i x).1=0 then none else some (⟨(np l i x).1,2,(i:Int),(np l i x).2⟩:GLawError)|none=>none) l.Tables.length with
  |some v=>rfl
  |none=>
   simp only[Eb,zaa];by_cases b:4<l.e.length
   .grind
   rw[if_neg (by omega),if_neg b,ls];cases ff (λi=>match l.e[i]? with|some x=>if(Ej l i x).1=0 then none else some (tP i (Ej l i x))|none=>none) l.e.length<;>rfl
structure Valid (l:GLaw):Prop where
 e:∀i (h:i<l.q.length),(Ug l i l.q[i]).1=0
 t:∀i (h:i<l.Tables.length),(np l i l.Tables[i]).1=0
 s:∀i (h:i<l.e.length),(Ej l i l.e[i]).1=0
 ne:l.q.length<=8
 nt:l.Tables.length<=8
 ns:l.e.length<=4
theorem rC{l:GLaw}(h:(cn l).Code=0):Valid l:=by
 unfold cn at h;split at h
 .grind
 rename_i h1;split at h
 .rename_i v hv;exact(EC (f:=λi=>match l.q[i]? with|some x=>if(Ug l i x).1=0 then none else some (⟨(Ug l i x).1,1,(i:Int),(Ug l i x).2⟩:GLawError)|none=>none) KT hv h).elim
 rename_i he;split at h
 .grind
 rename_i h2;split at h
 .rename_i v hv;exact(EC (f:=λi=>match l.Tables[i]? with|some x=>if(np l i x).1=0 then none else some (⟨(np l i x).1,2,(i:Int),(np l i x).2⟩:GLawError)|none=>none) UU hv h).elim
 rename_i ht;split at h
 .grind
 rename_i h3;refine⟨λi hi=>?_,λi hi=>?_,λi hi=>?_,by omega,by omega,by omega⟩
 .grind[ab]
 .grind[ab]
 .generalize hf:ff _ l.e.length=o at h
  cases o with
  |some v=>
   rw[Lab]at h;obtain⟨k,c,a,-⟩:=Pa.1 hf;rw[Baa c]at a;dsimp only at a;split at a
   .grind
   .rename_i b;injection a with a;subst a;exact(b h).elim
  |none=>
   grind[ab]
theorem Valid.rows{l:GLaw}(h:Valid l):∀x∈l.Tables,x.Rows.length<=64:=by
 intro x hx;obtain⟨i,hi,rfl⟩:=Maa hx;have:=h.t i hi
 grind[np,Es]
theorem IE(hn:n<=1048576) (bad:Nat->Bool) (a:∀i:Nat,i<n->step (i:Int)=if bad i=true then some (.ret false)else some (.go (aa .i64 ((i:Int)+1)))) (b:step (n:Int)=some (.brk ())) :
 (ca step 0=some (.inr false))\/(ca step 0=some (.inl ())/\∀i,i<n->bad i=false):=by
 have h:=xb (step:=step) (x0:=0) (λi=>(i:Int)) (λi=>if bad i=true then some false else none) n () (λi hi _=>by
  rw[a i hi,sa (by omega)];cases bad i<;>rfl) (λ_=>b)
 cases hf:ff (λi=>if bad i=true then some false else none) n with
 |none=>
  right;rw[hf]at h;refine⟨h,λi hi=>?_⟩
  grind[ab]
 |some v=>
  left;rw[hf]at h;obtain⟨k,-,c,-⟩:=Pa.1 hf;split at c
  .injection c with c;subst c;exact h
  grind
structure SmallSc (s:GScope):Prop where
 nm:s.j.size<=80
 ins:s.u.length<=14
 defs:s.d.length<=14
 rules:s.f.length<=60
 i:∀f∈s.u,f.j.size<=80
 d:∀f∈s.d,f.j.size<=80
 r:∀r∈s.f,r.j.size<=80/\r.au.size<=80/\r.ac.length<=50/\r.Value.length<=50
variable {s:GScope}
theorem OF(s:GScope):∃b,ki s=some b/\(b=true->SmallSc s):=by
 unfold ki;by_cases h1:80<(s.j.size:Int)
 .simp_all
 by_cases h2:14<(s.u.length:Int)
 .simp_all
 by_cases h3:14<(s.d.length:Int)
 .simp_all
 by_cases h4:60<(s.f.length:Int)
 .simp_all
 have hc:(if¬80<(s.j.size:Int)then if¬14<(s.u.length:Int)then if¬14<(s.d.length:Int)then some (decide (60<(s.f.length:Int)))else some true else some true else some true)=some false:=by
  grind
 rw[hc,zaa,if_neg (by simp)];rcases IE (n:=s.u.length) (by omega) (λi=>match s.u[i]? with|some f=>decide (80<(f.j.size:Int))|none=>false) (step:=Dj s) (λi hi=>by
  grind[Dj,ya]) (by grind[Dj])with k|⟨k,k1⟩
 .grind
 rw[k,zaa];dsimp only;rcases IE (n:=s.d.length) (by omega) (λi=>match s.d[i]? with|some f=>decide (80<(f.j.size:Int))|none=>false) (step:=Cj s) (λi hi=>by
  grind[Cj,ya]) (by grind[Cj])with k|⟨k,k2⟩
 .grind
 rw[k,zaa];dsimp only;rcases IE (n:=s.f.length) (by omega) (λi=>match s.f[i]? with|some r=>decide (80<(r.j.size:Int)\/80<(r.au.size:Int)\/50<(r.ac.length:Int)\/50<(r.Value.length:Int))|none=>false) (step:=Bj s) (λi hi=>by
  unfold Bj;rw[if_pos (by omega),ya hi,zaa,Baa hi]
  grind) (by grind[Bj])with k|⟨k,k3⟩
 .grind
 rw[k,zaa];refine⟨true,rfl,λ_=>⟨by omega,by omega,by omega,by omega,?_,?_,?_⟩⟩
 .intro f hf;obtain⟨i,hi,rfl⟩:=Maa hf
  grind
 .intro f hf;obtain⟨i,hi,rfl⟩:=Maa hf
  grind
 .intro r hr;obtain⟨i,hi,rfl⟩:=Maa hr
  grind
def nw(l:GLaw):Nat->Int
 |0=>0
 |k+1=>match l.Tables[k]? with|some t=>aa .i64 (nw l k+(t.Rows.length:Int))|none=>nw l k
structure SmallL (l:GLaw):Prop where
 ne:l.q.length<=9
 nt:l.Tables.length<=9
 ns:l.e.length<=5
 e:∀x∈l.q,x.j.size<=80/\x.r.length<=20/\∀m∈x.r,m.size<=80
 t:∀x∈l.Tables,x.j.size<=80
 s:∀x∈l.e,SmallSc x
 rt:∀i,i<l.Tables.length->nw l (i+1)<=150
variable {l:GLaw}
def KC(l:GLaw):Nat->Int
 |0=>0
 |k+1=>match l.e[k]? with|some t=>aa .i64 (KC l k+(t.f.length:Int))|none=>KC l k
def F5(l:GLaw) (i:Nat):Bool:=match l.q[i]? with|some x=>decide (80<(x.j.size:Int)) || decide (20<(x.r.length:Int)) || (x.r.any λm=>decide (80<(m.size:Int)))|none=>false
theorem uQ(hi:i<l.q.length):F5 l i=(decide (80<(l.q[i].j.size:Int)) || decide (20<(l.q[i].r.length:Int)) || (l.q[i].r.any λm=>decide (80<(m.size:Int)))):=by
 grind[F5]
theorem BI(l:GLaw):∃b,Hr l=some b/\(b=true->SmallL l):=by
 unfold Hr;by_cases h1:9<(l.q.length:Int)
 .simp_all
 by_cases h2:9<(l.Tables.length:Int)
 .simp_all
 by_cases h3:5<(l.e.length:Int)
 .simp_all
 have hc:(if¬9<(l.q.length:Int)then if¬9<(l.Tables.length:Int)then some (decide (5<(l.e.length:Int)))else some true else some true)=some false:=by
  grind
 rw[hc,zaa,if_neg (by simp)];have d:∀i (hi:i<l.q.length),l.q[i].r.length<=20->ca (Si l (i:Int)) 0=some (if(l.q[i].r.any λm=>decide (80<(m.size:Int)))=true then .inr (.ret false)else .inl ()):=by
  intro i hi hm;have h:=xb (step:=Si l (i:Int)) (x0:=0) (λk=>(k:Int)) (λk=>if(l.q[i].r[k]?.any λm=>decide (80<(m.size:Int)))=true then some (Ex.ret false)else none) l.q[i].r.length () (λk hk _=>by
   unfold Si;rw[ya hi,zaa,if_pos (by omega),ya hk,zaa,Baa hk,sa (by omega)];simp only[rac,decide_eq_true_eq];by_cases hb:80<(l.q[i].r[k].size:Int)
   .rw[if_pos hb,if_pos hb];rfl
   .rw[if_neg hb,if_neg hb];rfl) (λ_=>by grind[Si,ya])
  rw[h,←Ku (g:=λ_=>(Ex.ret false:Ex Int Unit Bool))]
  cases hf:ff (λk=>if(l.q[i].r[k]?.any λm=>decide (80<(m.size:Int)))=true then some (Ex.ret false:Ex Int Unit Bool)else none) l.q[i].r.length with
  |none=>rfl
  |some v=>
   obtain⟨k,-,e,-⟩:=Pa.1 hf;split at e
   .injection e with e;subst e;rfl
   grind
 rcases IE (n:=l.q.length) (by omega) (F5 l) (step:=Dl l) (λi hi=>by
  have d:=d i hi;unfold Dl;rw[if_pos (by omega),ya hi,zaa,uQ hi]
  grind) (by grind[Dl])with k|⟨k,k1⟩
 .grind
 rw[k,zaa];dsimp only;have q:=xb (step:=Cl l) (x0:=(0,0)) (λi=>(nw l i,(i:Int))) (λi=>match l.Tables[i]? with|some x=>if(decide (80<(x.j.size:Int)) || decide (150<nw l (i+1)))=true then some false else none|none=>none) l.Tables.length () (λi hi _=>by
  unfold Cl;simp only[nw,Baa hi];rw[if_pos (by omega),ya hi,zaa,sa (by omega)]
  grind[aD]) (λ_=>by grind[Cl])
 rw[q,zaa]
 cases hf:ff (λi=>match l.Tables[i]? with|some x=>if(decide (80<(x.j.size:Int)) || decide (150<nw l (i+1)))=true then some false else none|none=>none) l.Tables.length with
 |some v=>
  refine⟨false,?_,by simp⟩;obtain⟨j,o,a,-⟩:=Pa.1 hf;rw[Baa o]at a;dsimp only at a;split at a
  .injection a with a;subst a;rfl
  grind
 |none=>
  have ht2:=ab.1 hf;dsimp only[Eb];have p:=xb (step:=Bl l) (x0:=(0,0)) (λi=>(KC l i,(i:Int))) (λi=>match l.e[i]? with|some x=>if(decide (60<KC l (i+1)) || !((ki x).getD true))=true then some false else none|none=>none) l.e.length () (λi hi _=>by
   unfold Bl;simp only[KC,Baa hi];rw[if_pos (by omega),ya hi,zaa,sa (by omega)];obtain⟨b,hb,-⟩:=OF l.e[i]
   grind[aD]) (λ_=>by grind[Bl])
  rw[p,zaa]
  cases c:ff (λi=>match l.e[i]? with|some x=>if(decide (60<KC l (i+1)) || !((ki x).getD true))=true then some false else none|none=>none) l.e.length with
  |some v=>
   refine⟨false,?_,by simp⟩;obtain⟨j,o,a,-⟩:=Pa.1 c;rw[Baa o]at a;dsimp only at a;split at a
   .injection a with a;subst a;rfl
   grind
  |none=>
   have f:=ab.1 c;refine⟨true,rfl,λ_=>⟨by omega,by omega,by omega,?_,?_,?_,λi hi=>?_⟩⟩
   .intro x hx;obtain⟨i,hi,rfl⟩:=Maa hx
    grind[uQ]
   .intro x hx;obtain⟨i,hi,rfl⟩:=Maa hx
    grind
   .intro x hx;obtain⟨i,hi,rfl⟩:=Maa hx;have:=f i hi;rw[Baa hi]at this;dsimp only at this;split at this
    .cases this
    .rename_i hn;obtain⟨b,hb,hb2⟩:=OF l.e[i]
     grind
   grind
theorem GN{l:GLaw}(hr:∀t∈l.Tables,t.Rows.length<=1125899906842624) (hn:l.Tables.length<=9):∀n,n<=l.Tables.length->0<=nw l n/\nw l n<=1125899906842624*n/\∀i (hi:i<l.Tables.length),i<n->(l.Tables[i].Rows.length:Int)<=nw l n
 |0,_=>by simp[nw]
 |n+1,h=>by
  obtain⟨h1,h2,h3⟩:=GN hr hn n (by omega)
  grind[nw,wid]
theorem SmallL.rows(h:SmallL l) (hr:∀t∈l.Tables,t.Rows.length<=1125899906842624):∀t∈l.Tables,t.Rows.length<=150:=by
 intro t ht;obtain⟨i,hi,rfl⟩:=Maa ht;obtain⟨-,-,a⟩:=GN hr h.nt (i+1) hi;have:=a i hi (by omega);have:=h.rt i hi;omega
def K2(l:GLaw):Prop:=∀s∈l.e,∀r∈s.f,(∀n∈r.ac,Kb n)/\∀n∈r.Value,Kb n
theorem SmallL.ok(h:SmallL l) (ht:K2 l):LawOk l:=by
 have hne:=h.ne;have hnt:=h.nt;have hns:=h.ns;refine⟨by omega,by omega,by omega,λx hx=>?_,λx hx=>?_,λx hx=>?_⟩
 .obtain⟨a,b,c⟩:=h.e x hx
  grind
 .have:=h.t x hx;omega
 .obtain⟨a,b,c,d,e,f,g⟩:=h.s x hx;refine⟨by omega,⟨by omega,by omega,λr hr=>by grind⟩,by omega,λq hq=>by grind,λq hq=>by grind,λr hr=>?_⟩;have:=g r hr;obtain⟨t1,t2⟩:=ht x hx r hr
  grind
end Go.Proofs.Dev
