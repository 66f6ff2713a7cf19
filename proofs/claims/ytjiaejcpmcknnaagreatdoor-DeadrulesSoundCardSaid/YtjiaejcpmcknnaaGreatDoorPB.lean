/-
  The functions as plain partial functions, and plain lemmas about them: no condition.
-/
import Derived.Test.YtjiaejcpmcknnaaGreatDoorPA
open Bool renaming and_false->jae,false_and->kae,false_eq_true->Saa,not_eq_true->Yac,not_false->jad,not_true->yac,or_false->qae,true_and->Iab,true_eq_false->jab
open ByteArray renaming empty->Ead,mk->Raa
open Classical renaming not_forall->gae,not_imp->xae
open Int renaming natAbs_tdiv->Gae,reduceBEq->Waa,reduceEq->Taa,tdiv->iab,tdiv_nonneg->Fad,tmod->pab,tmod_nonneg->Hae
open List renaming any_eq_true->Cad,cons_append->nab,eq_nil_of_length_eq_zero->gab,filter_append->aac,foldl_cons->mac,getElem?_eq_getElem->Maa,getElem_mem->Qaa,getElem_of_mem->bab,getElem_take->fad,length_filter_le->Pab,mem_cons->kac,mem_filter->bac,mem_map->iac,mem_of_mem_drop->iad,mem_singleton->oac,nodup_cons->dae,pairwise_cons->pac,range->Zaa,replicate->Oaa,take_add_one->tab,take_length->Eac
open Nat renaming add_zero->dad,le_refl->dab,le_trans->dac
open Option renaming any_some->Yab,bind->Laa,bind_some->Kaa,getD_some->Nac,isSome_iff_exists->Sac
open Option.some renaming inj->oab,injEq->wab
set_option linter.all false
namespace Go.Tm
variable {α β ρ σ:Type}
theorem wid{n:Int}(h1:-9223372036854775808<=n) (h2:n<9223372036854775808):ca .i64 n=n:=by
 grind[ca,RJ]
theorem ya{i:Nat}(h:i<4611686018427387904):ca .i64 ((i:Int)+1)=((i+1:Nat):Int):=by
 grind[wid]
theorem Ca{l:List α}{i:Nat}(h:i<l.length):idx l (i:Int)=some l[i]:=by
 grind[idx]
theorem RM{l:List α}{i:Nat}:idx l (i:Int)=l[i]?:=by
 simp[idx]
theorem Ng{l:List α}{i:Int}(h1:0<=i) (h2:i<l.length):idx l i=some (l[i.toNat]'(by omega)):=by
 simp_all[idx]
theorem MJ{b:ByteArray}{i:Nat}(h:i<b.size):tu b (i:Int)=some (b[i].toNat:Int):=by
 simp_all[tu]
theorem nw{l:List α}{i:Nat}(h:i<=l.length):wu l (i:Int)=some (l.take i):=by
 simp_all[wu]
theorem P5{l:List α}{i:Nat}(h:i<=l.length):TE l (i:Int)=some (l.drop i):=by
 simp_all[TE]
theorem wi{b:Nat}{l r:List α}(h:(l.length+r.length)*b<=140737488355328):app b l r=some (l++r):=if_pos (by omega)
theorem yv{l:List α}{i:Nat}{x:α}(h:i<l.length):put l (i:Int) x=some (l.set i x):=by
 simp_all[put]
theorem dw{b n:Nat}{x:α}(h:n*b<=281474976710656) (h2:n<=4611686018427387904):Az b x (n:Int) (n:Int)=some (Oaa n x):=by
 grind[Az]
def ff(f:Nat->Option ρ):Nat->Option ρ
 |0=>none
 |n+1=>match f 0 with|some v=>some v|none=>ff (λi=>f (i+1)) n
theorem GM{f g:Nat->Option ρ}:∀{n:Nat},(∀i,i<n->f i=g i)->ff f n=ff g n
 |0,_=>rfl
 |n+1,h=>by
  simp only[ff,h 0 (by omega)];rw[GM (n:=n) (f:=λi=>f (i+1)) (g:=λi=>g (i+1)) λi hi=>h (i+1) (by omega)]
theorem Hb{f:Nat->Option ρ}:∀{n:Nat},ff f n=none↔∀i,i<n->f i=none
 |0=>by simp[ff]
 |n+1=>by
  simp only[ff];constructor
  .intro h i hi
   cases a:f 0 with
   |some v=>simp_all
   |none=>
    simp only[a]at h
    cases i with
    |zero=>omega
    |succ i=>exact(Hb (f:=λi=>f (i+1))).1 h i (by omega)
  .intro h;rw[h 0 (by omega)];exact Hb.2 λi hi=>h (i+1) (by omega)
theorem Oa{f:Nat->Option ρ}{v:ρ}:∀{n:Nat},ff f n=some v↔∃i,i<n/\f i=some v/\∀j,j<i->f j=none
 |0=>by simp[ff]
 |n+1=>by
  simp only[ff];constructor
  .intro h
   cases b:f 0 with
   |some w=>grind
   |none=>
    simp only[b]at h;obtain⟨i,c,h2,a⟩:=(Oa (f:=λi=>f (i+1))).1 h;exact⟨i+1,by omega,h2,λj d=>by cases j with|zero=>omega|succ j=>simp_all⟩
  .rintro⟨i,c,h2,a⟩
   cases i with
   |zero=>rw[h2]
   |succ i=>
    rw[a 0 (by omega)];exact Oa.2 ⟨i,by omega,h2,λj d=>a (j+1) (by omega)⟩
def jc(b:β):Option ρ->β⊕ρ
 |none=>.inl b
 |some v=>.inr v
def sG(s:σ):Option ρ->Ex σ β ρ
 |none=>.go s
 |some v=>.ret v
theorem bW{b:β}:jc b (none:Option ρ)=.inl b:=rfl
theorem oaa{b:β}{v:ρ}:jc b (some v)=.inr v:=rfl
theorem bc{step:σ->Option (Ex σ β ρ)}{x0:σ}(S:Nat->σ) (f:Nat->Option ρ) (n:Nat) (b:β)
 (e:∀i,i<n->(∀j,j<i->f j=none)->step (S i)=some (sG (S (i+1)) (f i))) (a:(∀j,j<n->f j=none)->step (S n)=some (.brk b)) (d:x0=S 0:=by rfl) :
 da step x0=some (jc b (ff f n)):=by
 have key:∀k i,i+k=n->(∀j,j<i->f j=none)->da step (S i)=some (jc b (ff (λj=>f (i+j)) k)):=by
  intro k
  induction k with
  |zero=>
   intro i hi hf;rw[dad]at hi;subst hi;rw[Ue (a hf)];rfl
  |succ k g=>
   intro i hi hf;have c:=e i (by omega) hf;simp only[ff,dad]
   cases d:f i with
   |some v=>
    rw[d]at c;rw[nr c];rfl
   |none=>
    rw[d]at c;rw[Ul c,g (i+1) (by omega) λj hj=>by grind]
    grind
 simp_all
theorem Rc{step:σ->Option (Ex σ β ρ)}{x0:σ}(S:Nat->σ) (n:Nat) (b:β) (hgo:∀i,i<n->step (S i)=some (.go (S (i+1)))) (hend:step (S n)=some (.brk b)) (h0:x0=S 0:=by rfl):da step x0=some (.inl b):=by
 have key:∀k i,i+k=n->da step (S i)=some (.inl b):=by
  intro k
  induction k with
  |zero=>simp_all[Ue]
  |succ k ih=>grind[Ul]
 simp_all
theorem n9{l:List α}{p:α->Option Bool}(q:α->Bool) (a:∀x∈l,p x=some (q x)) (hl:l.length<4611686018427387904) :
 da (λ(s:Int)=>if s<(l.length:Int)then(idx l s).bind λx=>(p x).bind λc=>if c=true then some (Ex.ret s)else some (Ex.go (ca .i64 (s+1)))else some (Ex.brk ())) 0
  = some (jc () (ff (λi=>if(l[i]?.any q)=true then some (i:Int)else none) l.length)):=by
 refine bc (λi=>(i:Int)) _ l.length () (λi hi _=>?_) (λ_=>?_)
 .rw[if_pos (by omega),Ca hi,Kaa,a _ (Qaa hi),Kaa,wid (by omega) (by omega)]
  grind[sG]
 simp
theorem pn{l:List α}{q:α->Bool}{g:Nat->ρ}:(ff (λi=>if(l[i]?.any q)=true then some (g i)else none) l.length).isSome=l.any q:=by
 rw[Bool.eq_iff_iff,Sac,Cad];constructor
 .grind[Oa]
 .rintro⟨x,hx,hq⟩;rw[←Sac,←Option.not_isNone,Bool.not_eq_true',Option.isNone_eq_false_iff,Option.isSome_iff_ne_none];intro hn;obtain⟨i,hi,rfl⟩:=bab hx
  grind[Hb]
theorem Kp{l:List α}{p:α->Option Bool}(q:α->Bool) (a:∀x∈l,p x=some (q x)) (hl:l.length<4611686018427387904) {o:Option (Unit⊕Int)}
 (ho:o=da (λ(s:Int)=>if s<(l.length:Int)then(idx l s).bind λx=>(p x).bind λc=>if c=true then some (Ex.ret s)else some (Ex.go (ca .i64 (s+1)))else some (Ex.brk ())) 0) :
 ((o.bind λy=>match y with|.inr v=>some v|.inl _=>some (-1)).bind λx=>some (decide (0<=x)))=some (l.any q):=by
 rw[ho,n9 q a hl];rw[←pn (q:=q) (g:=λi=>(i:Int))]
 cases h:ff (λi=>if(l[i]?.any q)=true then some (i:Int)else none) l.length with
 |none=>simp[jc]
 |some v=>
  grind[jc,Oa]
end Go.Tm
set_option maxRecDepth 10000
namespace Go.Proofs.Dev
open Go Go.Tm
def AV(c:Int):Bool:=decide (97<=c)&&decide (c<=122)
def E7(c:Int):Bool:=decide (48<=c)&&decide (c<=57)
def SN(c:Int):Bool:=AV c || E7 c || c==95
theorem sy{a b c:Int}:(Laa (if a<=c then some (decide (c<=b))else some false) λj=>some j)=some (decide (a<=c)&&decide (c<=b)):=by
 grind
theorem fx(c:Int):Uo c=some (AV c):=sy
theorem AE(c:Int):Jr c=some (E7 c):=sy
theorem Xz(c:Int):Fs c=some (AV c):=sy
theorem FI(c:Int):av c=some (E7 c):=sy
theorem TK(c:Int):du c=some (SN c):=by
 grind[du,SN,Xz,FI]
def ot(s:ByteArray) (i:Nat):Bool:=if h:i<s.size then SN (s[i].toNat:Int)else false
def Py(s:ByteArray):Bool:=(ff (λi=>if ot s i=true then none else some ()) s.size).isNone
theorem kA{s:ByteArray}(hs:s.size<4611686018427387904):∃n,Ek s=some n/\(n=(s.size:Int)↔Py s=true):=by
 have hstep:∀i:Nat,i<s.size->xd s (i:Int)=some (if ot s i=true then .go ((i+1:Nat):Int)else .brk (i:Int)):=by
  intro i hi;unfold xd;rw[if_pos (by omega),MJ hi,Kaa];simp only[fx,AE,Kaa,ot,dif_pos hi,SN]
  grind[wid]
 have w1:∀i,(if ot s i=true then none else some ())=none->ot s i=true:=λi h=>by
  simp_all
 unfold Ek
 cases h:ff (λi=>if ot s i=true then none else some ()) s.size with
 |none=>
  have a:=Hb.1 h;have hl:da (xd s) 0=some (.inl (s.size:Int)):=Rc (λi=>(i:Int)) s.size (s.size:Int)
   (λi hi=>by simp_all) (by grind[xd])
  rw[hl];exact⟨_,rfl,by grind[Py]⟩
 |some v=>
  obtain⟨k,a,h2,h3⟩:=Oa.1 h;have hl:da (xd s) 0=some (.inl (k:Int)):=Rc (λi=>(i:Int)) k (k:Int)
   (λi hi=>by grind) (by
    simp_all)
  rw[hl];exact⟨_,rfl,by grind[Py]⟩
noncomputable def jD:List ByteArray:=(ag).getD []
theorem sV{p:Prop} [Decidable p] {b:Bool}:(if p then some true else some b)=some (decide p || b):=by
 grind
theorem dR{s a:ByteArray}{l:List ByteArray}:((a::l).any λr=>decide (s=r))=(decide (s=a) || (l.any λr=>decide (s=r))):=rfl
theorem NT{s:ByteArray}:(([]:List ByteArray).any λr=>decide (s=r))=false:=rfl
theorem oP(s:ByteArray):Oe s=some (jD.any λr=>decide (s=r)):=by
 unfold Oe jD ag;simp (config := { maxSteps := 4000000 }) only[Nac,dR,NT,sV,Kaa,qae];simp
theorem nP(s:ByteArray):∃b,Oe s=some b:=by
 unfold Oe;simp (config := { maxSteps := 4000000 }) only[sV,Kaa];simp
noncomputable def Y1(s:ByteArray):Bool:=(Oe s).getD false
theorem xH(s:ByteArray):Oe s=some (Y1 s):=by
 obtain⟨b,h⟩:=nP s
 grind[Y1]
noncomputable def wk(s:ByteArray):Bool:=if h:0<s.size/\s.size<=16 then AV (s[0].toNat:Int)&&Py s&&!(Y1 s)else false
theorem qJ{s:ByteArray}:s=Raa #[]↔s.size=0:=by
 constructor
 .rintro rfl;rfl
 .intro h;obtain⟨a⟩:=s;congr 1;exact Array.eq_empty_of_size_eq_zero h
theorem Rp{s:ByteArray}(b:s.size<4611686018427387904):vb s=some (wk s):=by
 obtain⟨n,hn,a⟩:=kA b;unfold vb wk;by_cases h0:s.size=0
 .simp_all[qJ]
 .have hx:tu s 0=some (s[0].toNat:Int):=MJ (i:=0) (by omega);rw[if_pos (by grind[qJ]),hx];simp only[Kaa,fx,hn,a,xH]
  grind
theorem Bn{s:ByteArray}(hs:s.size<4611686018427387904):wb s=some (wk s):=by
 unfold wb wk;by_cases h:0<s.size/\s.size<=16
 .have hx:tu s 0=some (s[0].toNat:Int):=MJ (i:=0) (by omega);have a:Y1 s=jD.any λr=>decide (s=r):=oab ((xH s).symm.trans (oP s));rw[dif_pos h,if_pos (by omega),if_pos (by omega),hx,a];simp only[Kaa,Xz]
  cases hl:AV (s[0].toNat:Int)with
  |false=>simp
  |true=>
   have b:da (sf s) 0=some (jc () (ff (λi=>if ot s i=true then none else some false) s.size)):=
    bc (λi=>(i:Int)) _ s.size () (λi hi _=>by
     unfold sf;rw[if_pos (by omega),MJ hi];simp only[Kaa,TK,ot,dif_pos hi];rw[wid (by omega) (by omega)];cases SN (s[i].toNat:Int)<;>rfl) (λ_=>by grind[sf])
   have e:ag=some jD:=by grind[jD,ag]
   have hlen:jD.length=55:=by unfold jD ag;rfl
   have c:da (qf s jD) 0=some (jc () (ff (λi=>if(jD[i]?.any λr=>decide (s=r))=true then some false else none) jD.length)):=
    bc (λi=>(i:Int)) _ jD.length () (λi hi _=>by
     unfold qf;rw[if_pos (by omega),Ca hi,Maa hi];simp only[Kaa,Yab,decide_eq_true_eq];rw[wid (by omega) (by omega)];by_cases he:s=jD[i]
     .rw[if_pos he.symm,if_pos he];rfl
     .rw[if_neg (λh=>he h.symm),if_neg he];rfl) (λ_=>by grind[qf])
   simp only[yac,Saa,if_false,b,e,Kaa];have ha:=pn (l:=jD) (q:=λr=>decide (s=r)) (g:=λ_=>false);have hw:Py s=(ff (λi=>if ot s i=true then none else some false) s.size).isNone:=by
    unfold Py
    cases d:ff (λi=>if ot s i=true then none else some ()) s.size with
    |none=>
     grind[Hb]
    |some v=>
     obtain⟨k,k1,k2,k3⟩:=Oa.1 d
     cases h2:ff (λi=>if ot s i=true then none else some false) s.size with
     |some _=>rfl
     |none=>
      grind[Hb]
   rw[hw,←ha]
   cases d:ff (λi=>if ot s i=true then none else some false) s.size with
   |some v=>
    grind[jc,Oa]
   |none=>
    simp only[jc,c,Kaa,Option.isNone_none,Iab]
    grind[Oa]
 grind
def ja(t:GType) (e:List GEnum):Bool:=
 if t.Kind=6 then decide (0<=t.Enum)&&decide (t.Enum<(e.length:Int))else decide (1<=t.Kind)&&decide (t.Kind<=5)&&(t.Enum==0)
noncomputable def vtX(t0:GType) (t1:List GEnum):Option Bool:=
 if t0.Kind=6 then
  Laa (α:=Bool) (
   if 0<=t0.Enum then
    some (decide (t0.Enum<(t1.length:Int)))
   else
   some false) λa=>
  some a
 else
 Laa (α:=Bool) (
  if 1<=t0.Kind then
   if t0.Kind<=5 then
    some (t0.Enum==0)
   else
   some false
  else
  some false) λb=>
 some b
theorem Q5(t:GType) (e:List GEnum):vtX t e=some (ja t e):=by
 grind[vtX,ja]
theorem Qa(t:GType) (e:List GEnum):Sb t e=some (ja t e):=Q5 t e
theorem Ha(t:GType) (e:List GEnum):Ub t e=some (ja t e):=by
 rw[←Q5]
 grind[Ub,vtX]
theorem kR(t:GType) (e:List GEnum):Kc t e=Mf t e:=by
 grind[Kc,Mf,Ha,Qa]
theorem lR(t:GType) (e:List GEnum):∃p,Kc t e=some p:=by
 unfold Kc;rw[Ha,Kaa]
 cases h:ja t e with
 |false=>simp
 |true=>
  simp only[jab,if_false]
  repeat' split
  all_goals first|exact⟨_,rfl⟩|skip
  have a:t.Kind=6:=by
   grind[ja]
  unfold ja at h;rw[if_pos a]at h;simp at h;rw[Ng h.1 h.2];simp
noncomputable def og(t:GType) (e:List GEnum):Int×Int:=(Kc t e).getD (0,0)
theorem oi(t:GType) (e:List GEnum):Kc t e=some (og t e):=by
 obtain⟨p,hp⟩:=lR t e
 grind[og]
theorem Cn(t:GType) (e:List GEnum):Mf t e=some (og t e):=by rw[←kR,oi]
noncomputable def mT(n:Int) (t:GType) (e:List GEnum):Bool:=decide ((og t e).1<=n)&&decide (n<=(og t e).2)
theorem jP(n:Int) (t:GType) (e:List GEnum):eu n t e=some (mT n t e):=by
 grind[eu,mT,Cn]
def kT(r:GDateRange):Bool:=decide (0<=r.From)&&(decide (r.From<=r.To)&&decide (r.To<=109573))
theorem iq(r:GDateRange):Dg r=some (kT r):=by
 grind[Dg,kT]
theorem Lr(r:GDateRange):qj r=some (kT r):=by
 grind[qj,kT]
def Vw(a b:GRow):Bool:=kT a.Valid&&kT b.Valid&&decide (max a.Valid.From b.Valid.From<min a.Valid.To b.Valid.To)&&decide (max a.Lo b.Lo<min a.Hi b.Hi)
theorem aD(a b:GRow):En a b=some (Vw a b):=by
 unfold En qp Vw;simp only[Lr,Kaa]
 grind
theorem pD(a b:GRow):On a b=some (Vw a b):=by
 unfold On Wj Ti Vw;simp only[iq,Kaa];cases kT a.Valid<;>cases kT b.Valid<;>simp only[Saa,if_false,if_true,Kaa,jad,yac,kae,Iab,jae]
 all_goals grind
noncomputable def vD(x:GRow) (t:GTable) (e:List GEnum):Bool:=
 !(kT x.Valid) || decide (x.Valid.From=x.Valid.To) || decide (x.Hi<=x.Lo) || !(mT x.Lo t.Key e) || !(mT (ca .i64 (x.Hi-1)) t.Key e) || !(mT x.N t.Value e)
theorem II(x:GRow) (t:GTable) (e:List GEnum):Gs x t e=some (vD x t e):=by
 unfold Gs vD;simp only[Lr,jP,Kaa]
 grind
noncomputable def kD(t:GTable) (e:List GEnum) (i:Nat):Option (Int×Int):=
 match t.Rows[i]? with
 |some x=>if vD x t e=true then some ((i:Int),3)else if((t.Rows.take i).any λy=>Vw y x)=true then some ((i:Int),11)else none
 |none=>none
noncomputable def Ip(t:GTable) (e:List GEnum):Int×Int:=
 if 64<t.Rows.length then(64,4)else if(ja t.Key e&&ja t.Value e)=false then(-1,8)else(ff (kD t e) t.Rows.length).getD (0,0)
theorem MO{l:List GRow}{x:GRow}(hl:l.length<4611686018427387904):∃p,Rb l (λy=>Kd y x)=some p/\p.2=l.any λy=>Vw y x:=by
 have a:da (Ib l (λy=>Kd y x)) 0=some (jc () (ff (λi=>if(l[i]?.any λy=>Vw y x)=true then some ((i:Int),true)else none) l.length)):=
  bc (λi=>(i:Int)) _ l.length () (λi hi _=>by
   unfold Ib;rw[if_pos (by omega),Ca hi,Maa hi]
   grind[Kd,sG,pD,ya]) (λ_=>by grind[Ib])
 unfold Rb;rw[a,←pn (q:=λy=>Vw y x) (g:=λi=>((i:Int),true)),Kaa]
 cases h:ff (λi=>if(l[i]?.any λy=>Vw y x)=true then some ((i:Int),true)else none) l.length with
 |none=>exact⟨_,rfl,rfl⟩
 |some v=>
  obtain⟨k,h1,h2,-⟩:=Oa.1 h;refine⟨_,rfl,?_⟩
  grind
theorem oD(t:GTable) (e:List GEnum):Rk t e=some (Ip t e):=by
 unfold Rk Ip;by_cases a:64<t.Rows.length
 .grind
 .rw[if_neg (by omega),if_neg a];simp only[Ha,oi,Kaa];have hl:da (Kj t (og t.Key e) (og t.Value e)) 0=some (jc () (ff (kD t e) t.Rows.length)):=
   bc (λi=>(i:Int)) _ t.Rows.length () (λi hi _=>by
    unfold Kj kD;rw[if_pos (by omega),Ca hi,Maa hi];simp only[Kaa,iq];rw[nw (by omega),ya (by omega)];obtain⟨p,hp,hp2⟩:=MO (l:=t.Rows.take i) (x:=t.Rows[i]) (by grind)
    grind[vD,mT,sG]) (λ_=>by grind[Kj])
  rw[hl];cases ja t.Key e<;>cases ja t.Value e<;>simp only[Saa,if_false,if_true,Kaa,jad,yac,kae,Iab,jae,jab];cases ff (kD t e) t.Rows.length<;>rfl
theorem ZC(t:GTable) (e:List GEnum):Dn t e=some (Ip t e):=by
 unfold Dn Ip;by_cases a:64<t.Rows.length
 .grind
 .rw[if_neg (by omega),if_neg a];simp only[Qa,Kaa];have hl:da (vj t e) 0=some (jc () (ff (kD t e) t.Rows.length)):=
   bc (λi=>(i:Int)) _ t.Rows.length () (λi hi _=>by
    have b:da (uj t (i:Int) t.Rows[i]) 0=some (jc () (ff (λk=>if((t.Rows.take i)[k]?.any λy=>Vw y t.Rows[i])=true then some (Ex.ret ((i:Int),11))else none) (t.Rows.take i).length)):=
     bc (λi=>(i:Int)) _ (t.Rows.take i).length () (λk hk _=>by
      have hk':k<i:=by grind
      unfold uj;rw[if_pos (by omega),Ca (by omega),Maa hk]
      grind[sG,aD,ya]) (λ_=>by
       grind[uj])
    unfold vj kD;rw[if_pos (by omega),Ca hi,Maa hi];simp only[Kaa,II,b];rw[ya (by omega),←pn (q:=λy=>Vw y t.Rows[i]) (g:=λk=>(Ex.ret ((i:Int),11):Ex Int Unit (Int×Int)))];cases vD t.Rows[i] t e
    .simp only[Saa,if_false]
     cases h:ff (λk=>if((t.Rows.take i)[k]?.any λy=>Vw y t.Rows[i])=true then some (Ex.ret ((i:Int),11):Ex Int Unit (Int×Int))else none) (t.Rows.take i).length with
     |none=>rfl
     |some v=>
      obtain⟨k,h1,h2,-⟩:=Oa.1 h;split at h2
      .injection h2 with h2;subst h2;rfl
      simp_all
    .rfl) (λ_=>by grind[vj])
  rw[hl];cases ja t.Key e<;>cases ja t.Value e<;>simp only[Saa,if_false,if_true,Kaa,jad,yac,kae,Iab,jae,jab];cases ff (kD t e) t.Rows.length<;>rfl
def Ab(op:Int):Int:=
 if(1<=op/\op<=9)\/(35<=op/\op<=39)then 0
 else if op=10\/op=25\/(31<=op/\op<=34)then 1
 else if op=26 then 3
 else if 11<=op/\op<=30 then 2 else -1
theorem xB{op:Int}(h:1<=op/\op<=39):op=1\/op=2\/op=3\/op=4\/op=5\/op=6\/op=7\/op=8\/op=9\/op=10\/op=11\/op=12\/op=13\/op=14\/op=15\/op=16\/op=17\/op=18\/op=19\/op=20\/op=21\/op=22\/op=23\/op=24\/op=25\/op=26\/op=27\/op=28\/op=29\/op=30\/op=31\/op=32\/op=33\/op=34\/op=35\/op=36\/op=37\/op=38\/op=39:=by omega
theorem tC{op:Int}(h:¬(1<=op/\op<=39)):Ab op = -1:=by
 grind[Ab]
theorem Zi(op:Int):Fh op=some (Ab op):=by
 by_cases h:1<=op/\op<=39
 .rcases xB h with h|h|h|h|h|h|h|h|h|h|h|h|h|h|h|h|h|h|h|h|h|h|h|h|h|h|h|h|h|h|h|h|h|h|h|h|h|h|h<;>subst h<;>simp[Fh,Ab]
 .rw[tC h];unfold Fh;have hn:∀k:Int,1<=k->k<=39->¬op=k:=λk h1 h2 he=>h (by omega);simp[hn]
theorem Av(op:Int):Wk op=some (Ab op):=by
 grind[Wk,Ab]
def tc(op:Int):Bool:=decide ((1<=op/\op<=8)\/(14<=op/\op<=16)\/(33<=op/\op<=34)\/(36<=op/\op<=39))
theorem Fa{op:Int}(h:1<=op/\op<=39):nn op=some (tc op):=by
 rcases xB h with h|h|h|h|h|h|h|h|h|h|h|h|h|h|h|h|h|h|h|h|h|h|h|h|h|h|h|h|h|h|h|h|h|h|h|h|h|h|h<;>subst h<;>simp[nn,tc]
theorem Tb{op:Int}(h:1<=op/\op<=39):xm op=some (tc op):=by
 rcases xB h with h|h|h|h|h|h|h|h|h|h|h|h|h|h|h|h|h|h|h|h|h|h|h|h|h|h|h|h|h|h|h|h|h|h|h|h|h|h|h<;>subst h<;>simp[xm,tc]
def ew(k:Int):Bool:=k==2 || k==3 || k==4
theorem Ig(k:Int):Jf k=some (ew k):=by
 grind[Jf,ew]
theorem iu(k:Int):sj k=some (ew k):=by
 grind[sj,ew]
theorem kx(k:Int):gh k=some (ew k || k==5):=by
 grind[gh,iu]
noncomputable def Ja(n:GNode) (ops:List GType) (s:GSignature):Option (GType×Int):=
 Laa (α:=Bool) (if¬n.N=0 then(nn n.Op).bind λx=>some (!x)else some false) λj=>if j=true then some ((GType.mk 0 0),2)else sa n ops s
def Xa(n:GNode):Prop:=-9223372036854775808<=n.N/\n.N<=9223372036854775807
theorem BL{n:Int}{k:Int}(hk:1<=k) (h:-9223372036854775808<=n/\n<=9223372036854775807):ca .i64 (iab n k)=iab n k:=by
 have h1:(iab n k).natAbs<=n.natAbs:=by
  rw[Gae];exact Nat.div_le_self _ _
 by_cases hn:n = -9223372036854775808
 .by_cases a:k=1
  .subst a;subst hn;rfl
  .have:(iab n k).natAbs<n.natAbs:=by
    rw[Gae];exact Nat.div_lt_self (by omega) (by omega)
   grind[wid]
 grind[wid]
end Go.Proofs.Dev
set_option maxHeartbeats 1000000
namespace Go.Proofs.Dev
open Go Go.Tm
theorem nC{t:GType}{e:List GEnum}(h:ja t e=true) (hk:t.Kind≠6):t.Enum=0:=by
 simp_all[ja]
theorem KP{k:Int}{e:List GEnum}(h1:1<=k) (h2:k<=5):ja ⟨k,0⟩ e=true:=by
 grind[ja]
theorem VE{e:List GEnum}:ja ⟨1,0⟩ e=true:=KP (by omega) (by omega)
theorem mC{e:List GEnum}:ja ⟨2,0⟩ e=true:=KP (by omega) (by omega)
theorem RN{e:List GEnum}:ja ⟨3,0⟩ e=true:=KP (by omega) (by omega)
theorem RX{e:List GEnum}:ja ⟨4,0⟩ e=true:=KP (by omega) (by omega)
theorem vt_5{e:List GEnum}:ja ⟨5,0⟩ e=true:=KP (by omega) (by omega)
def oC(n:GNode) (ops:List GType) (s:GSignature):Prop:=
 Ja n ops s=Sa n ops s/\∃r,Sa n ops s=some r/\(r.2=0->ja r.1 s.Enums=true)
theorem SV{n:GNode}{s:GSignature}{k:Int}(hk:1<=k/\k<=5) (hn:n.Op=k):oC n [] s:=by
 have hu:=Fa (op:=n.Op) (by omega);have hm:=Tb (op:=n.Op) (by omega);have j:tc n.Op=true:=by grind[tc]
 have hv:ja ⟨n.Op,0⟩ s.Enums=true:=KP (by omega) (by omega);have q:Sa n [] s=some (if(og ⟨n.Op,0⟩ s.Enums).1<=n.N/\n.N<=(og ⟨n.Op,0⟩ s.Enums).2 then(⟨n.Op,0⟩,0)else(⟨0,0⟩,3)):=by
  unfold Sa bb kc Pj xb;simp only[Cn,hm,j,Kaa];have l:¬n.Op=6:=by omega
  have m:¬n.Op=7:=by omega
  have o:¬n.Op=8:=by omega
  have p:¬n.Op=9:=by omega
  have a:¬n.Op=33:=by omega
  have b:¬n.Op=34:=by omega
  have c:¬n.Op=35:=by omega
  have d:¬n.Op=36:=by omega
  have e:¬n.Op=37:=by omega
  have f:¬n.Op=38:=by omega
  have g:¬n.Op=39:=by omega
  have i:(if n.Op=1 then some true else if n.Op=2 then some true else if n.Op=3 then some true else if n.Op=4 then some true else some (n.Op==5))=some true:=by
   rcases(by omega:n.Op=1\/n.Op=2\/n.Op=3\/n.Op=4\/n.Op=5)with h|h|h|h|h<;>simp[h]
  simp only[i,l,m,o,p,a,b,c,d,e,f,g,Qa,hv,Kaa,if_true,if_false,sy]
  grind
 have hI:Ja n [] s=some (if(og ⟨n.Op,0⟩ s.Enums).1<=n.N/\n.N<=(og ⟨n.Op,0⟩ s.Enums).2 then(⟨n.Op,0⟩,0)else(⟨0,0⟩,3)):=by
  grind[ld,og,sa,Ja,oi]
 refine⟨by simp_all,_,q,?_⟩
 grind
theorem Uu{N:Int}:(if¬N=0 then(some true).bind λx=>some (!x)else some false)=some false:=by simp
theorem ND{N:Int}:(if¬N=0 then(some false).bind λx=>some (!x)else some false)=some (!(N==0)):=by
 grind
theorem Gu{α:Type}{x:α}{Q:α->Prop}:(∃r,some x=some r/\Q r)=Q x:=by simp
theorem Vu{α:Type}{l:List α}{N:Int}(d:α) (h0:0<=N) (h1:N<(l.length:Int)):idx l N=some ((l[N.toNat]?).getD d):=by
 grind[Ng]
theorem faa{N:Int}{s:GSignature}(hN:Xa ⟨6,N⟩):oC ⟨6,N⟩ [] s:=by
 have w:=BL (n:=N) (k:=16) (by omega) hN;have hu:=Fa (op:=6) (by omega);have hm:=Tb (op:=6) (by omega);have a:tc 6=true:=rfl;unfold oC Ja sa Po Sa bb kc Pj;simp only[w,hu,hm,a,Qa,Uu];by_cases b:0<=N
 .have hd:0<=iab N 16:=Fad b (by omega);by_cases c:iab N 16<(s.Enums.length:Int)
  .rw[Vu ⟨Ead,[]⟩ hd c];have hv:ja ⟨6,iab N 16⟩ s.Enums=true:=by grind[ja]
   generalize (s.Enums[(iab N 16).toNat]?).getD ⟨Ead,[]⟩=m;have d:¬N<0:=by omega
   have e:¬(s.Enums.length:Int)<=iab N 16:=by omega
   by_cases h2:pab N 16<(m.Members.length:Int)
   .have f:¬(m.Members.length:Int)<=pab N 16:=by omega
    simp[b,c,h2,hv,d,e,f,Gu,-Prod.exists]
   grind
  grind
 simp_all
theorem gaa{N:Int}{s:GSignature}:oC ⟨7,N⟩ [] s:=by
 have hu:=Fa (op:=7) (by omega);have hm:=Tb (op:=7) (by omega);have a:tc 7=true:=rfl;unfold oC Ja sa sb Sa bb kc Pj;simp only[hu,hm,a,Qa,Ha,Uu];by_cases b:0<=N
 .have d:¬N<0:=by omega
  by_cases c:N<(s.Inputs.length:Int)
  .rw[Vu ⟨0,0⟩ b c];generalize (s.Inputs[N.toNat]?).getD ⟨0,0⟩=t;obtain⟨g,f⟩:=t;have e:¬(s.Inputs.length:Int)<=N:=by omega
   cases hv:ja ⟨g,f⟩ s.Enums<;>simp[b,c,hv,d,e,Gu,-Prod.exists]
  simp_all
 grind
theorem haa{N:Int}{s:GSignature}:oC ⟨8,N⟩ [] s:=by
 have hu:=Fa (op:=8) (by omega);have hm:=Tb (op:=8) (by omega);have a:tc 8=true:=rfl;unfold oC Ja sa sb Sa bb kc Pj;simp only[hu,hm,a,Qa,Ha,Uu];by_cases b:0<=N
 .have d:¬N<0:=by omega
  by_cases c:N<(s.Defs.length:Int)
  .rw[Vu ⟨0,0⟩ b c];generalize (s.Defs[N.toNat]?).getD ⟨0,0⟩=t;obtain⟨g,f⟩:=t;have e:¬(s.Defs.length:Int)<=N:=by omega
   cases hv:ja ⟨g,f⟩ s.Enums<;>simp[b,c,hv,d,e,Gu,-Prod.exists]
  simp_all
 grind
theorem iaa{N:Int}{s:GSignature}:oC ⟨9,N⟩ [] s:=by
 have hu:=Fa (op:=9) (by omega);have hm:=Tb (op:=9) (by omega);have a:tc 9=false:=rfl;unfold oC Ja sa Sa bb kc Pj xb;simp only[hu,hm,a,Qa,ND];cases N==0<;>simp[vt_5,Gu,-Prod.exists]
theorem ZZ{N:Int}{s:GSignature}:oC ⟨35,N⟩ [] s:=by
 have hu:=Fa (op:=35) (by omega);have hm:=Tb (op:=35) (by omega);have a:tc 35=false:=rfl;unfold oC Ja sa Ve Sa bb kc Pj xb;simp only[hu,hm,a,Qa,ND];cases hm:s.HasMembers<;>cases N==0<;>simp[hm,mC,Gu,-Prod.exists]
theorem TV{op N:Int}{s:GSignature}(h:36<=op/\op<=39):oC ⟨op,N⟩ [] s:=by
 have hu:=Fa (op:=op) (by omega);have hm:=Tb (op:=op) (by omega);have f:tc op=true:=by grind[tc]
 unfold oC Ja sa Ve sb Sa bb kc Pj;simp only[hu,hm,f,Qa,Ha,Ig,kx,Uu];cases c:s.HasMembers
 .rcases(by omega:op=36\/op=37\/op=38\/op=39)with h|h|h|h<;>subst h<;>simp[c,Gu,-Prod.exists]
 .by_cases b:0<=N
  .have a:¬N<0:=by omega
   by_cases e:N<(s.MemberDefs.length:Int)
   .rw[Vu ⟨0,0⟩ b e];generalize (s.MemberDefs[N.toNat]?).getD ⟨0,0⟩=t;obtain⟨g,j⟩:=t;have d:¬(s.MemberDefs.length:Int)<=N:=by omega
    cases hv:ja ⟨g,j⟩ s.Enums
    .rcases(by omega:op=36\/op=37\/op=38\/op=39)with h|h|h|h<;>subst h<;>simp[c,b,e,hv,a,d,Gu,-Prod.exists]
    .rcases(by omega:op=36\/op=37\/op=38\/op=39)with h|h|h|h<;>subst h<;>simp only[c,b,e,hv,a,d,Kaa,if_true,if_false,not_true_eq_false,not_false_eq_true,decide_false,decide_true,Saa,jab,Taa,beq_self_eq_true,Waa]
     .by_cases i:g=2<;>by_cases k3:g=3<;>simp[i,k3,hv,Gu,-Prod.exists]<;>simp_all
     all_goals grind
   .have d:(s.MemberDefs.length:Int)<=N:=by omega
    rcases(by omega:op=36\/op=37\/op=38\/op=39)with h|h|h|h<;>subst h<;>simp[c,b,e,a,d,Gu,-Prod.exists]
  .have a:N<0:=by omega
   rcases(by omega:op=36\/op=37\/op=38\/op=39)with h|h|h|h<;>subst h<;>simp[c,b,a,Gu,-Prod.exists]
theorem He{α:Type}{x:α}{l:List α}:idx (x::l) 0=some x:=rfl
theorem uE{α:Type}{x y:α}{l:List α}:idx (x::y::l) 1=some y:=rfl
theorem pV{α:Type}{x y z:α}{l:List α}:idx (x::y::z::l) 2=some z:=rfl
theorem VV{op N:Int}{s:GSignature}{a:GType}(d:op=10\/op=25\/op=31\/op=32) (ha:ja a s.Enums=true):oC ⟨op,N⟩ [a] s:=by
 have hu:=Fa (op:=op) (by omega);have hm:=Tb (op:=op) (by omega);have e:tc op=false:=by grind[tc]
 unfold oC Ja sa Ga Sa bb kc Hl xb;simp only[hu,hm,e,ND,Ig,iu];obtain⟨c,ae⟩:=a;rcases d with h|h|h|h<;>subst h<;>cases N==0
 .simp
 .cases hn:ew c<;>simp[He,hn,ha,Gu,-Prod.exists]
 .simp
 .by_cases b:c=1
  .subst b;have:=nC ha (by simp)
   simp_all[He]
  simp_all[He]
 .simp
 .by_cases b:c=5<;>simp[He,b,mC,Gu,-Prod.exists]
 .simp
 .by_cases b:c=5<;>simp[He,b,mC,Gu,-Prod.exists]
theorem XZ{N:Int}{s:GSignature}{a:GType}(ha:ja a s.Enums=true):oC ⟨33,N⟩ [a] s:=by
 have hu:=Fa (op:=33) (by omega);have hm:=Tb (op:=33) (by omega);have f:tc 33=true:=rfl;unfold oC Ja sa Ih Sa bb kc Hl;simp only[hu,hm,f,Qa,Ha,Uu];by_cases c:0<=N
 .have b:¬N<0:=by omega
  by_cases d:N<(s.Tables.length:Int)
  .obtain⟨t,ht⟩:∃t,idx s.Tables N=some t:=⟨_,Ng c d⟩;have e:¬(s.Tables.length:Int)<=N:=by omega
   cases hk:ja t.Key s.Enums
   .simp[He,ht,c,d,b,e,hk,Gu,-Prod.exists]
   .cases hv:ja t.Value s.Enums
    .simp[He,ht,c,d,b,e,hk,hv,Gu,-Prod.exists]
    .by_cases g:a.Kind=t.Key.Kind<;>by_cases h:a.Enum=t.Key.Enum<;>simp[He,ht,c,d,b,e,hk,hv,g,h,Gu,-Prod.exists]
  simp_all[He]
 .have b:N<0:=by omega
  have e3:¬N<(s.Tables.length:Int)\/N<(s.Tables.length:Int):=by omega
  simp[He,c,b,Gu,-Prod.exists]
theorem YZ{N:Int}{s:GSignature}{a:GType}(hN:Xa ⟨34,N⟩) (ha:ja a s.Enums=true):oC ⟨34,N⟩ [a] s:=by
 have hu:=Fa (op:=34) (by omega);have hm:=Tb (op:=34) (by omega);have g:tc 34=true:=rfl;have w:=BL (n:=N) (k:=8) (by omega) hN;unfold oC Ja sa Ih Wf Sa bb kc Hl xb;simp only[hu,hm,g,Qa,Ha,Uu,w];by_cases c:0<=N
 .have d:¬N<0:=by omega
  have hd:0<=iab N 8:=Fad c (by omega);have b:0<=pab N 8:=Hae _ c;have r:¬iab N 8<0:=by omega
  by_cases u:pab N 8<=5
  .by_cases m:iab N 8<(s.Tables.length:Int)
   .obtain⟨t,ht⟩:∃t,idx s.Tables (iab N 8)=some t:=⟨_,Ng hd m⟩;have q:¬(s.Tables.length:Int)<=iab N 8:=by omega
    obtain⟨_,⟨j,i⟩,⟨o,v⟩,_⟩:=t;obtain⟨l,p⟩:=a;simp only[He,ht,c,m,d,q,r,b,u,Kaa,if_true,if_false,not_true_eq_false,not_false_eq_true,decide_false,decide_true,Saa,jab,Taa,beq_self_eq_true,Waa,yac,jad];by_cases e:j=3
    .subst e;by_cases f:i=0
     .subst f;rw[show ja ⟨3,0⟩ s.Enums=true from RN];by_cases h:o=4
      .subst h
       grind[ja]
      grind[ja]
     simp_all[ja]
    .cases ja ⟨j,i⟩ s.Enums<;>cases ja ⟨o,v⟩ s.Enums<;>by_cases ha3:l=3<;>by_cases hak:l=j<;>by_cases hae:p=i<;>simp_all[Gu,-Prod.exists]
   simp_all[He]
  simp_all[He]
 .have d:N<0:=by omega
  simp[He,c,d,Gu,-Prod.exists]
theorem WZ{N:Int}{s:GSignature}{a b c:GType}(hb:ja b s.Enums=true):oC ⟨26,N⟩ [a,b,c] s:=by
 have hu:=Fa (op:=26) (by omega);have hm:=Tb (op:=26) (by omega);have d:tc 26=false:=rfl;unfold oC Ja sa Ga Sa bb kc;simp only[hu,hm,d,ND];obtain⟨bk,be⟩:=b;cases N==0
 .simp
 .by_cases e:a.Kind=1<;>by_cases f:bk=c.Kind<;>by_cases k3:be=c.Enum<;>simp[He,uE,pV,e,f,k3,Gu,-Prod.exists]
  simp_all
theorem res2{op N:Int}{s:GSignature}{a b:GType}{u:Bool}(hm:xm op=some u) (hr:bb ⟨op,N⟩ s=some true) (hf:kc ⟨op,N⟩ s=some true) {t:GType}{ok:Bool}
 (hd:rj op a b=some (t,ok)) (hu:u=true\/N=0):Sa ⟨op,N⟩ [a,b] s=some (if ok=true then(t,0)else(⟨0,0⟩,8)):=by
 unfold Sa;simp only[hm,hr,hf,He,uE];rcases hu with rfl|rfl<;>cases ok<;>simp[hd]
theorem imp2{op N:Int}{s:GSignature}{a b:GType}{u:Bool}(hm:nn op=some u) (h1:sa ⟨op,N⟩ [a,b] s=(Ga op [a,b]).bind λx=>if x.2=false then some (⟨0,0⟩,8)else some (x.1,0)) {t:GType}{ok:Bool}
 (hd:Ga op [a,b]=some (t,ok)) (hu:u=true\/N=0):Ja ⟨op,N⟩ [a,b] s=some (if ok=true then(t,0)else(⟨0,0⟩,8)):=by
 unfold Ja
 grind
theorem two_of{op N:Int}{s:GSignature}{a b:GType}(hop:(11<=op/\op<=24)\/(27<=op/\op<=30)) {t:GType}{ok:Bool}{t':GType}(f:Ga op [a,b]=some (t',ok)) (g:rj op a b=some (t,ok)) (ht:ok=true->t'=t/\ja t s.Enums=true) :
 oC ⟨op,N⟩ [a,b] s:=by
 have hu:=Fa (op:=op) (by omega);have hm:=Tb (op:=op) (by omega);have hr:(14<=op/\op<=16)/\bb ⟨op,N⟩ s=some (decide (0<=N)&&decide (N<=5))/\sa ⟨op,N⟩ [a,b] s=(if(decide (0<=N)&&decide (N<=5))=true then(Ga op [a,b]).bind λx=>if x.2=false then some (⟨0,0⟩,8)else some (x.1,0)else some (⟨0,0⟩,3))\/
  ¬(14<=op/\op<=16)/\bb ⟨op,N⟩ s=some true/\sa ⟨op,N⟩ [a,b] s=((Ga op [a,b]).bind λx=>if x.2=false then some (⟨0,0⟩,8)else some (x.1,0)):=by
  clear f g ht hu hm;by_cases h:14<=op/\op<=16
  .refine .inl ⟨h,?_,?_⟩
   .grind[bb]
   .unfold sa Wf;simp only[sy];rcases(by omega:op=14\/op=15\/op=16)with h|h|h<;>subst h<;>by_cases g1:0<=N<;>by_cases g2:N<=5<;>simp[g1,g2]
  .refine .inr ⟨h,?_,?_⟩
   .unfold bb;rcases(by omega:op=11\/op=12\/op=13\/op=17\/op=18\/op=19\/op=20\/op=21\/op=22\/op=23\/op=24\/op=27\/op=28\/op=29\/op=30)with h|h|h|h|h|h|h|h|h|h|h|h|h|h|h<;>subst h<;>simp
   .unfold sa;rcases(by omega:op=11\/op=12\/op=13\/op=17\/op=18\/op=19\/op=20\/op=21\/op=22\/op=23\/op=24\/op=27\/op=28\/op=29\/op=30)with h|h|h|h|h|h|h|h|h|h|h|h|h|h|h<;>subst h<;>simp
 have hf:kc ⟨op,N⟩ s=some true:=by
  unfold kc;rcases(by omega:op=11\/op=12\/op=13\/op=14\/op=15\/op=16\/op=17\/op=18\/op=19\/op=20\/op=21\/op=22\/op=23\/op=24\/op=27\/op=28\/op=29\/op=30)with h|h|h|h|h|h|h|h|h|h|h|h|h|h|h|h|h|h<;>subst h<;>simp
 have fin:∀(e:tc op=true\/N=0),bb ⟨op,N⟩ s=some true->sa ⟨op,N⟩ [a,b] s=((Ga op [a,b]).bind λx=>if x.2=false then some (⟨0,0⟩,8)else some (x.1,0))->oC ⟨op,N⟩ [a,b] s:=by
  intro e c h2;unfold oC;rw[res2 hm c hf g e,imp2 hu h2 f e]
  grind
 rcases hr with⟨h,c,h2⟩|⟨h,c,h2⟩
 .have d:tc op=true:=by grind[tc]
  by_cases hN:(decide (0<=N)&&decide (N<=5))=true
  .simp_all
  .rw[Yac]at hN;rw[hN]at c;rw[hN,if_neg (by simp)]at h2;unfold oC Ja Sa
   simp_all
 .have d:tc op=false:=by grind[tc]
  by_cases hN:N=0
  .simp_all
  .unfold oC Ja Sa
   simp_all
theorem WV{op N:Int}{s:GSignature}{a b:GType}(hop:(11<=op/\op<=24)\/(27<=op/\op<=30)) (ha:ja a s.Enums=true):oC ⟨op,N⟩ [a,b] s:=by
 have i:∀k,1<=k->k<=5->a.Kind=k->a.Enum=0:=λk g h2 h=>nC ha (by omega);obtain⟨d,f⟩:=a;obtain⟨bk,be⟩:=b;simp only at i;have hr:∃t t' ok,Ga op [⟨d,f⟩,⟨bk,be⟩]=some (t',ok)/\rj op ⟨d,f⟩ ⟨bk,be⟩=some (t,ok)/\(ok=true->t'=t/\ja t s.Enums=true):=by
  unfold Ga rj ph Iq xb;simp only[He,uE,Ig,iu,kx];rcases(by omega:op=11\/op=12\/op=13\/op=14\/op=15\/op=16\/op=17\/op=18\/op=19\/op=20\/op=21\/op=22\/op=23\/op=24\/op=27\/op=28\/op=29\/op=30)with h|h|h|h|h|h|h|h|h|h|h|h|h|h|h|h|h|h<;>subst h
  .by_cases c:d=bk/\f=be
   .cases hn:ew d<;>simp[c,hn,ha]
    all_goals grind
   .simp[c]
  .by_cases c:d=bk/\f=be
   .cases hn:ew d<;>simp[c,hn,ha]
    all_goals grind
   .simp[c]
  .by_cases c:bk=2<;>by_cases e:d=2<;>by_cases k3:d=3<;>simp[c,e,k3,mC,RN]
  .by_cases c:bk=4<;>by_cases e:d=3<;>by_cases k3:d=4<;>simp[c,e,k3,RX,RN]
  .by_cases c:bk=2<;>by_cases e:d=2<;>by_cases k3:d=3<;>by_cases k4:bk=3<;>simp[c,e,k3,k4,mC,RN,RX]
   all_goals simp_all
  .by_cases c:d=3<;>by_cases e:bk=3<;>simp[c,e]
   simp_all
  .by_cases c:d=bk/\f=be
   .cases hn:ew d<;>by_cases k5:d=5<;>simp[c,hn,k5,ha]
    all_goals grind
   .simp[c]
  .by_cases c:d=bk/\f=be
   .cases hn:ew d<;>by_cases k5:d=5<;>simp[c,hn,k5,ha]
    all_goals grind
   .simp[c]
  .by_cases c:d=bk<;>by_cases e:f=be<;>simp[c,e,VE]
  .by_cases c:d=bk<;>by_cases e:f=be<;>simp[c,e,VE]
  .by_cases c:d=bk/\f=be
   .cases hn:ew d<;>by_cases k5:d=5<;>simp[c,hn,k5,VE]
    all_goals grind[VE]
   .simp[c]
  .by_cases c:d=bk/\f=be
   .cases hn:ew d<;>by_cases k5:d=5<;>simp[c,hn,k5,VE]
    all_goals grind[VE]
   .simp[c]
  .by_cases c:d=1<;>by_cases e:bk=1<;>simp[c,e]
   grind
  .by_cases c:d=1<;>by_cases e:bk=1<;>simp[c,e]
   grind
  .by_cases c:d=5<;>by_cases e:bk=2<;>simp[c,e]
   simp_all
  .by_cases c:d=5<;>by_cases e:bk=2<;>simp[c,e]
   simp_all
  .by_cases c:d=5<;>by_cases e:bk=5<;>simp[c,e,mC]
  .by_cases c:d=5<;>by_cases e:bk=5<;>simp[c,e,mC]
 obtain⟨t,t',ok,g,h2,h3⟩:=hr
 grind[two_of]
theorem A0{n:GNode}{ops:List GType}{s:GSignature}(e:1<=n.Op/\n.Op<=39) (hN:Xa n) (d:(ops.length:Int)=Ab n.Op) (hv:∀t∈ops,ja t s.Enums=true):oC n ops s:=by
 obtain⟨op,N⟩:=n;simp only at e d;unfold Ab at d;by_cases f:(1<=op/\op<=9)\/(35<=op/\op<=39)
 .rw[if_pos f]at d;obtain rfl:ops=[]:=gab (by omega);rcases(by omega:(1<=op/\op<=5)\/op=6\/op=7\/op=8\/op=9\/op=35\/(36<=op/\op<=39))with h|h|h|h|h|h|h
  .exact SV h rfl
  all_goals grind[faa,gaa,haa,iaa,ZZ,TV]
 rw[if_neg f]at d;by_cases g:op=10\/op=25\/(31<=op/\op<=34)
 .rw[if_pos g]at d;obtain⟨a,rfl⟩:∃a,ops=[a]:=by
   match ops,d with
   |[a],_=>simp
  have ha:=hv a (by simp);rcases(by omega:(op=10\/op=25\/op=31\/op=32)\/op=33\/op=34)with h|h|h
  all_goals grind[VV,XZ,YZ]
 rw[if_neg g]at d;by_cases h2:op=26
 .rw[if_pos h2]at d;obtain⟨a,b,c,rfl⟩:∃a b c,ops=[a,b,c]:=by
   match ops,d with
   |[a,b,c],_=>simp
  grind[WZ]
 rw[if_neg h2,if_pos (by omega)]at d;obtain⟨a,b,rfl⟩:∃a b,ops=[a,b]:=by
  match ops,d with
  |[a,b],_=>simp
 grind[WV]
def Aa(e:List GNode) (i:Nat):GNode:=(e[i]?).getD ⟨0,0⟩
theorem Qe{e:List GNode}{i:Nat}(h:i<e.length):e[i]=Aa e i:=by
 grind[Aa]
def Bg(e:List GNode):Nat->List Int×List Int
 |0=>([],[])
 |i+1=>
  let p:=Bg e i
  let a:=(Ab (Aa e i).Op).toNat
  let f:=if 0<a then(p.2[p.2.length-a]?).getD 0 else(i:Int)
  (p.1++[f],p.2.take (p.2.length-a)++[f])
theorem ZB(e:List GNode):∀i,(Bg e i).1.length=i
 |0=>rfl
 |i+1=>by simp[Bg,ZB e i]
def Xw(e:List GNode) (i:Nat):Option (List Int×Int×Int):=
 if Ab (Aa e i).Op<0 then some ([],(i:Int),2)
 else if((Bg e i).2.length:Int)<Ab (Aa e i).Op then some ([],(i:Int),5)
 else if 12<(Bg e (i+1)).2.length then some ([],(i:Int),16)else none
def Jm(e:List GNode):List Int×Int×Int:=
 if 48<e.length then([],0,4)else if e.length=0 then([],0,5)
 else match ff (Xw e) e.length with
  |some v=>v
  |none=>if 1<(Bg e e.length).2.length then([],(e.length:Int),4)else((Bg e e.length).1,0,0)
theorem Sp{e:List GNode}{i:Nat}(h:∀j,j<i->Xw e j=none):(Bg e i).2.length<=12:=by
 cases i with
 |zero=>simp[Bg]
 |succ i=>
  have:=h i (by omega)
  grind[Xw]
theorem Y2{p:List Int}{i n:Nat}{f:Int}(hp:p.length=i) (h:i<n):(p++Oaa (n-i) 0).set i f=p++[f]++Oaa (n-(i+1)) 0:=by
 obtain⟨k,hk⟩:∃k,n-i=k+1:=⟨n-i-1,by omega⟩;have hk':n-(i+1)=k:=by omega
 simp_all[List.replicate_succ]
theorem iQ{p r:List Int}{i:Nat}{f:Int}(hp:p.length=i):(p++[f]++r)[i]?=some f:=by
 simp_all
theorem uk(e:List GNode):qk e=some (Jm e):=by
 unfold qk Jm;by_cases g:48<e.length
 .grind
 rw[if_neg (by omega),if_neg g];by_cases j:e.length=0
 .simp_all
 rw[if_neg (by omega),if_neg j,dw (by omega) (by omega),Kaa];have hl:da (bj e) (Oaa e.length 0,([]:List Int),0)=some (jc ((Bg e e.length).1,(Bg e e.length).2) (ff (Xw e) e.length)):=by
  refine bc (λi=>((Bg e i).1++Oaa (e.length-i) 0,(Bg e i).2,(i:Int))) (Xw e) e.length _ (λi hi hf=>?_) (λ_=>?_) ?_
  .have hs:=Sp hf;have hl:=ZB e i;unfold bj Xw;simp only;rw[if_pos (by omega),Ca hi,Kaa,Qe hi,Zi,Kaa];by_cases ha:Ab (Aa e i).Op<0
   .rw[if_pos ha,if_pos ha];rfl
   rw[if_neg ha,if_neg ha];by_cases hb:((Bg e i).2.length:Int)<Ab (Aa e i).Op
   .rw[if_pos hb,if_pos hb];rfl
   rw[if_neg hb,if_neg hb];obtain⟨a,c⟩:∃a:Nat,Ab (Aa e i).Op=a:=⟨(Ab (Aa e i).Op).toNat,by omega⟩;have h:Bg e (i+1)=((Bg e i).1++[if 0<a then((Bg e i).2[(Bg e i).2.length-a]?).getD 0 else(i:Int)],(Bg e i).2.take ((Bg e i).2.length-a)++[if 0<a then((Bg e i).2[(Bg e i).2.length-a]?).getD 0 else(i:Int)]):=by
    grind[Bg]
   have f:ca .i64 (((Bg e i).2.length:Int)-(a:Int))=(((Bg e i).2.length-a:Nat):Int):=by
    grind[wid]
   rw[c,h,f];generalize hS:(Bg e i).2=sk at *;generalize (Bg e i).1=st at *;rw[c]at hb;rw[Ca (i:=i) (by grind),Kaa,yv (by grind),Kaa,Y2 hl hi,nw (by omega)];by_cases b:0<a
   .have hk:sk.length-a<sk.length:=by omega
    rw[if_pos (by omega),if_pos b,Ca hk,Kaa,Ca (i:=i) (by simp_all),Kaa,yv (by simp_all),Kaa];have d:(st++[(i:Int)]++Oaa (e.length-(i+1)) 0).set i sk[sk.length-a]=st++[sk[sk.length-a]]++Oaa (e.length-(i+1)) 0:=by
     simp_all
    rw[d,Kaa,Kaa,Maa hk,Nac,RM,iQ hl,Kaa];rw[wi (by grind),Kaa];by_cases hd:12<(sk.take (sk.length-a)++[sk[sk.length-a]]).length
    .grind
    .rw[if_neg (by omega),if_neg hd,ya (by omega)];rfl
   .rw[if_neg (by omega),if_neg b,Kaa,Kaa,RM,iQ hl,Kaa];rw[wi (by grind),Kaa];by_cases hd:12<(sk.take (sk.length-a)++[(i:Int)]).length
    .rw[if_pos (by omega),if_pos hd];rfl
    .rw[if_neg (by omega),if_neg hd,ya (by omega)];rfl
  all_goals grind[bj,Bg]
 grind[jc]
theorem dv(e:List GNode):Kg e=some (Jm e):=by
 unfold Kg Jm;by_cases f:48<e.length
 .grind
 rw[if_neg (by omega),if_neg f];by_cases j:e.length=0
 .simp_all
 rw[if_neg (by omega),if_neg j];have hl:da (Th e) (([]:List Int),([]:List Int),0)=some (jc ((Bg e e.length).1,(Bg e e.length).2) (ff (Xw e) e.length)):=by
  refine bc (λi=>((Bg e i).1,(Bg e i).2,(i:Int))) (Xw e) e.length _ (λi hi hf=>?_) (λ_=>?_)
  .have hs:=Sp hf;have hl:=ZB e i;unfold Th Xw;simp only;rw[if_pos (by omega),Ca hi,Kaa,Qe hi,Av,Kaa];by_cases ha:Ab (Aa e i).Op<0
   .rw[if_pos ha,if_pos ha];rfl
   rw[if_neg ha,if_neg ha];by_cases hb:((Bg e i).2.length:Int)<Ab (Aa e i).Op
   .rw[if_pos hb,if_pos hb];rfl
   rw[if_neg hb,if_neg hb];obtain⟨a,c⟩:∃a:Nat,Ab (Aa e i).Op=a:=⟨(Ab (Aa e i).Op).toNat,by omega⟩;have h:Bg e (i+1)=((Bg e i).1++[if 0<a then((Bg e i).2[(Bg e i).2.length-a]?).getD 0 else(i:Int)],(Bg e i).2.take ((Bg e i).2.length-a)++[if 0<a then((Bg e i).2[(Bg e i).2.length-a]?).getD 0 else(i:Int)]):=by
    grind[Bg]
   have d:ca .i64 (((Bg e i).2.length:Int)-(a:Int))=(((Bg e i).2.length-a:Nat):Int):=by
    grind[wid]
   rw[c,h,d];generalize hS:(Bg e i).2=sk at *;generalize (Bg e i).1=st at *;rw[c]at hb;by_cases b:0<a
   .have hk:sk.length-a<sk.length:=by omega
    rw[if_pos (by omega),if_pos b,Ca hk,Kaa,nw (by omega),Kaa,Kaa,Maa hk,Nac];simp only;rw[wi (by grind),Kaa,wi (by grind),Kaa];by_cases hd:12<(sk.take (sk.length-a)++[sk[sk.length-a]]).length
    .grind
    .rw[if_neg (by omega),if_neg hd,ya (by omega)];rfl
   .have g:a=0:=by omega
    subst g;rw[if_neg (by omega),if_neg b,Kaa];simp only[Nat.sub_zero,Eac];rw[wi (by grind),Kaa,wi (by grind),Kaa];by_cases hd:12<(sk++[(i:Int)]).length
    .rw[if_pos (by omega),if_pos hd];rfl
    .rw[if_neg (by omega),if_neg hd,ya (by omega)];rfl
  grind[Th]
 grind[jc]
def pC(n:GNode) (ops:List GType) (s:GSignature):Prop:=∃r,Ja n ops s=some r/\(r.2=0->ja r.1 s.Enums=true)
theorem NV{n:GNode}{s:GSignature}{k:Int}(hk:1<=k/\k<=5) (hn:n.Op=k):pC n [] s:=by
 have hu:=Fa (op:=n.Op) (by omega);have hus:tc n.Op=true:=by grind[tc]
 have hv:ja ⟨n.Op,0⟩ s.Enums=true:=KP (by omega) (by omega);have a:Ja n [] s=some (if(og ⟨n.Op,0⟩ s.Enums).1<=n.N/\n.N<=(og ⟨n.Op,0⟩ s.Enums).2 then(⟨n.Op,0⟩,0)else(⟨0,0⟩,3)):=by
  grind[ld,og,sa,Ja,oi]
 refine⟨_,a,?_⟩
 grind
theorem baa{N:Int}{s:GSignature}(hN:Xa ⟨6,N⟩):pC ⟨6,N⟩ [] s:=by
 have w:=BL (n:=N) (k:=16) (by omega) hN;have hu:=Fa (op:=6) (by omega);have f:tc 6=true:=rfl;unfold pC Ja sa Po;simp only[w,hu,f,Uu];by_cases c:0<=N
 .have hd:0<=iab N 16:=Fad c (by omega);by_cases d:iab N 16<(s.Enums.length:Int)
  .rw[Vu ⟨Ead,[]⟩ hd d];have hv:ja ⟨6,iab N 16⟩ s.Enums=true:=by grind[ja]
   generalize (s.Enums[(iab N 16).toNat]?).getD ⟨Ead,[]⟩=m;have a:¬N<0:=by omega
   have b:¬(s.Enums.length:Int)<=iab N 16:=by omega
   by_cases h2:pab N 16<(m.Members.length:Int)
   .have e:¬(m.Members.length:Int)<=pab N 16:=by omega
    simp[c,d,h2,hv,a,b,e,Gu,-Prod.exists]
   .have e:(m.Members.length:Int)<=pab N 16:=by omega
    simp[c,d,h2,hv,a,b,e,Gu,-Prod.exists]
  .have a:¬N<0:=by omega
   have b:(s.Enums.length:Int)<=iab N 16:=by omega
   simp[c,d,a,b,Gu,-Prod.exists]
 simp_all
theorem caa{N:Int}{s:GSignature}:pC ⟨7,N⟩ [] s:=by
 have hu:=Fa (op:=7) (by omega);have a:tc 7=true:=rfl;unfold pC Ja sa sb;simp only[hu,a,Ha,Uu];by_cases b:0<=N
 .have d:¬N<0:=by omega
  by_cases c:N<(s.Inputs.length:Int)
  .rw[Vu ⟨0,0⟩ b c];generalize (s.Inputs[N.toNat]?).getD ⟨0,0⟩=t;obtain⟨g,f⟩:=t;have e:¬(s.Inputs.length:Int)<=N:=by omega
   cases hv:ja ⟨g,f⟩ s.Enums<;>simp[b,c,hv,d,e,Gu,-Prod.exists]
  simp_all
 simp_all
theorem daa{N:Int}{s:GSignature}:pC ⟨8,N⟩ [] s:=by
 have hu:=Fa (op:=8) (by omega);have a:tc 8=true:=rfl;unfold pC Ja sa sb;simp only[hu,a,Ha,Uu];by_cases b:0<=N
 .have d:¬N<0:=by omega
  by_cases c:N<(s.Defs.length:Int)
  .rw[Vu ⟨0,0⟩ b c];generalize (s.Defs[N.toNat]?).getD ⟨0,0⟩=t;obtain⟨g,f⟩:=t;have e:¬(s.Defs.length:Int)<=N:=by omega
   cases hv:ja ⟨g,f⟩ s.Enums<;>simp[b,c,hv,d,e,Gu,-Prod.exists]
  simp_all
 simp_all
theorem eaa{N:Int}{s:GSignature}:pC ⟨9,N⟩ [] s:=by
 have hu:=Fa (op:=9) (by omega);have a:tc 9=false:=rfl;unfold pC Ja sa;simp only[hu,a,ND];cases N==0<;>simp[vt_5,Gu,-Prod.exists]
theorem VZ{N:Int}{s:GSignature}:pC ⟨35,N⟩ [] s:=by
 have hu:=Fa (op:=35) (by omega);have a:tc 35=false:=rfl;unfold pC Ja sa Ve;simp only[hu,a,ND];cases hm:s.HasMembers<;>cases N==0<;>simp[mC,Gu,-Prod.exists]
theorem OV{op N:Int}{s:GSignature}(h:36<=op/\op<=39):pC ⟨op,N⟩ [] s:=by
 have hu:=Fa (op:=op) (by omega);have g:tc op=true:=by grind[tc]
 unfold pC Ja sa Ve sb;simp only[hu,g,Ha,Ig,Uu];cases d:s.HasMembers
 .rcases(by omega:op=36\/op=37\/op=38\/op=39)with h|h|h|h<;>subst h<;>simp[d,Gu,-Prod.exists]
 .by_cases c:0<=N
  .have b:¬N<0:=by omega
   by_cases f:N<(s.MemberDefs.length:Int)
   .rw[Vu ⟨0,0⟩ c f];generalize (s.MemberDefs[N.toNat]?).getD ⟨0,0⟩=t;obtain⟨a,k⟩:=t;have e:¬(s.MemberDefs.length:Int)<=N:=by omega
    cases hv:ja ⟨a,k⟩ s.Enums
    .rcases(by omega:op=36\/op=37\/op=38\/op=39)with h|h|h|h<;>subst h<;>simp[d,c,f,hv,b,e,Gu,-Prod.exists]
    .rcases(by omega:op=36\/op=37\/op=38\/op=39)with h|h|h|h<;>subst h<;>simp only[d,c,f,hv,b,e,Kaa,if_true,if_false,not_true_eq_false,not_false_eq_true,decide_false,decide_true,Saa,jab,Taa,beq_self_eq_true,Waa]
     .by_cases j:a=2<;>by_cases k3:a=3<;>simp[j,k3,hv,Gu,-Prod.exists]<;>simp_all
     .by_cases i:a=1<;>simp[i,hv,Gu,-Prod.exists]<;>simp_all
     .by_cases i:a=1<;>simp[i,hv,Gu,-Prod.exists]<;>simp_all
     .cases ew a<;>by_cases k5:a=5<;>simp[k5,hv,Gu,-Prod.exists]<;>simp_all
   .have e:(s.MemberDefs.length:Int)<=N:=by omega
    rcases(by omega:op=36\/op=37\/op=38\/op=39)with h|h|h|h<;>subst h<;>simp[d,c,f,b,e,Gu,-Prod.exists]
  .have b:N<0:=by omega
   rcases(by omega:op=36\/op=37\/op=38\/op=39)with h|h|h|h<;>subst h<;>simp[d,c,b,Gu,-Prod.exists]
theorem PV{op N:Int}{s:GSignature}{a:GType}(d:op=10\/op=25\/op=31\/op=32) (ha:ja a s.Enums=true):pC ⟨op,N⟩ [a] s:=by
 have hu:=Fa (op:=op) (by omega);have e:tc op=false:=by grind[tc]
 unfold pC Ja sa Ga;simp only[hu,e,ND,Ig];obtain⟨c,ae⟩:=a;rcases d with h|h|h|h<;>subst h<;>cases N==0
 .simp
 .cases hn:ew c<;>simp[He,hn,ha,Gu,-Prod.exists]
 .simp
 .by_cases b:c=1
  .subst b;have:=nC ha (by simp)
   simp_all[He]
  simp_all[He]
 .simp
 .by_cases b:c=5<;>simp[He,b,mC,Gu,-Prod.exists]
 .simp
 .by_cases b:c=5<;>simp[He,b,mC,Gu,-Prod.exists]
theorem TZ{N:Int}{s:GSignature}{a:GType}(ha:ja a s.Enums=true):pC ⟨33,N⟩ [a] s:=by
 have hu:=Fa (op:=33) (by omega);have f:tc 33=true:=rfl;unfold pC Ja sa Ih;simp only[hu,f,Ha,Uu];by_cases c:0<=N
 .have b:¬N<0:=by omega
  by_cases d:N<(s.Tables.length:Int)
  .obtain⟨t,ht⟩:∃t,idx s.Tables N=some t:=⟨_,Ng c d⟩;have e:¬(s.Tables.length:Int)<=N:=by omega
   cases hk:ja t.Key s.Enums
   .simp[He,ht,c,d,b,e,hk,Gu,-Prod.exists]
   .cases hv:ja t.Value s.Enums
    .simp[He,ht,c,d,b,e,hk,hv,Gu,-Prod.exists]
    .by_cases g:a.Kind=t.Key.Kind<;>by_cases h:a.Enum=t.Key.Enum<;>simp[He,ht,c,d,b,e,hk,hv,g,h,Gu,-Prod.exists]
  simp_all[He]
 .have b:N<0:=by omega
  have e3:¬N<(s.Tables.length:Int)\/N<(s.Tables.length:Int):=by omega
  simp[He,c,b,Gu,-Prod.exists]
theorem UZ{N:Int}{s:GSignature}{a:GType}(hN:Xa ⟨34,N⟩) (ha:ja a s.Enums=true):pC ⟨34,N⟩ [a] s:=by
 have hu:=Fa (op:=34) (by omega);have j:tc 34=true:=rfl;have w:=BL (n:=N) (k:=8) (by omega) hN;unfold pC Ja sa Ih Wf;simp only[hu,j,Ha,Uu,w];by_cases g:0<=N
 .have v:¬N<0:=by omega
  have hd:0<=iab N 8:=Fad g (by omega);have d:0<=pab N 8:=Hae _ g;have y:¬iab N 8<0:=by omega
  by_cases z:pab N 8<=5
  .by_cases u:iab N 8<(s.Tables.length:Int)
   .obtain⟨t,ht⟩:∃t,idx s.Tables (iab N 8)=some t:=⟨_,Ng hd u⟩;have x:¬(s.Tables.length:Int)<=iab N 8:=by omega
    obtain⟨_,⟨o,m⟩,⟨q,p⟩,_⟩:=t;obtain⟨f,r⟩:=a;simp only[He,ht,g,u,v,x,y,d,z,Kaa,if_true,if_false,not_true_eq_false,not_false_eq_true,decide_false,decide_true,Saa,jab,Taa,beq_self_eq_true,Waa,yac,jad];by_cases h:o=3
    .subst h;by_cases i:m=0
     .subst i;rw[show ja ⟨3,0⟩ s.Enums=true from RN];by_cases e:q=4
      .subst e;by_cases l:p=0
       .subst l;rw[show ja ⟨4,0⟩ s.Enums=true from RX];by_cases b:f=3
        .subst b;have:=nC ha (by simp)
         simp_all
        simp_all
       simp_all[ja]
      .cases ja ⟨q,p⟩ s.Enums<;>by_cases b:f=3<;>by_cases c:r=0<;>simp[b,c,e,Gu,-Prod.exists]
     simp_all[ja]
    .cases ja ⟨o,m⟩ s.Enums<;>cases ja ⟨q,p⟩ s.Enums<;>by_cases b:f=3<;>by_cases hak:f=o<;>by_cases c:r=m<;>simp_all[Gu,-Prod.exists]
   simp_all[He]
  simp_all[He]
 simp_all[He]
theorem SZ{N:Int}{s:GSignature}{a b c:GType}(hb:ja b s.Enums=true):pC ⟨26,N⟩ [a,b,c] s:=by
 have hu:=Fa (op:=26) (by omega);have d:tc 26=false:=rfl;unfold pC Ja sa Ga;simp only[hu,d,ND];obtain⟨bk,be⟩:=b;cases N==0
 .simp
 .by_cases e:a.Kind=1<;>by_cases f:bk=c.Kind<;>by_cases k3:be=c.Enum<;>simp[He,uE,pV,e,f,k3,Gu,-Prod.exists]
  simp_all
theorem r4{op N:Int}{s:GSignature}{a b:GType}(hop:(11<=op/\op<=24)\/(27<=op/\op<=30)) {ok:Bool}{t':GType}(d:Ga op [a,b]=some (t',ok)) (ht:ok=true->ja t' s.Enums=true) :
 pC ⟨op,N⟩ [a,b] s:=by
 have hu:=Fa (op:=op) (by omega);have hr:(14<=op/\op<=16)/\sa ⟨op,N⟩ [a,b] s=(if(decide (0<=N)&&decide (N<=5))=true then(Ga op [a,b]).bind λx=>if x.2=false then some (⟨0,0⟩,8)else some (x.1,0)else some (⟨0,0⟩,3))\/
  ¬(14<=op/\op<=16)/\sa ⟨op,N⟩ [a,b] s=((Ga op [a,b]).bind λx=>if x.2=false then some (⟨0,0⟩,8)else some (x.1,0)):=by
  clear d ht hu;by_cases h:14<=op/\op<=16
  .refine .inl ⟨h,?_⟩
   .unfold sa Wf;simp only[sy];rcases(by omega:op=14\/op=15\/op=16)with h|h|h<;>subst h<;>by_cases g1:0<=N<;>by_cases g2:N<=5<;>simp[g1,g2]
  .refine .inr ⟨h,?_⟩
   .unfold sa;rcases(by omega:op=11\/op=12\/op=13\/op=17\/op=18\/op=19\/op=20\/op=21\/op=22\/op=23\/op=24\/op=27\/op=28\/op=29\/op=30)with h|h|h|h|h|h|h|h|h|h|h|h|h|h|h<;>subst h<;>simp
 have fin:∀(e:tc op=true\/N=0),sa ⟨op,N⟩ [a,b] s=((Ga op [a,b]).bind λx=>if x.2=false then some (⟨0,0⟩,8)else some (x.1,0))->pC ⟨op,N⟩ [a,b] s:=by
  intro e h2;unfold pC;rw[imp2 hu h2 d e]
  grind
 rcases hr with⟨h,h2⟩|⟨h,h2⟩
 .have c:tc op=true:=by grind[tc]
  by_cases hN:(decide (0<=N)&&decide (N<=5))=true
  .simp_all
  .rw[Yac]at hN;rw[hN,if_neg (by simp)]at h2;unfold pC Ja
   simp_all
 .have c:tc op=false:=by grind[tc]
  by_cases hN:N=0
  .simp_all
  .unfold pC Ja
   simp_all
theorem QV{op N:Int}{s:GSignature}{a b:GType}(hop:(11<=op/\op<=24)\/(27<=op/\op<=30)) (ha:ja a s.Enums=true):pC ⟨op,N⟩ [a,b] s:=by
 have i:∀k,1<=k->k<=5->a.Kind=k->a.Enum=0:=λk g h2 h=>nC ha (by omega);obtain⟨d,f⟩:=a;obtain⟨bk,be⟩:=b;simp only at i;have hr:∃t' ok,Ga op [⟨d,f⟩,⟨bk,be⟩]=some (t',ok)/\(ok=true->ja t' s.Enums=true):=by
  unfold Ga ph;simp only[He,uE,Ig];rcases(by omega:op=11\/op=12\/op=13\/op=14\/op=15\/op=16\/op=17\/op=18\/op=19\/op=20\/op=21\/op=22\/op=23\/op=24\/op=27\/op=28\/op=29\/op=30)with h|h|h|h|h|h|h|h|h|h|h|h|h|h|h|h|h|h<;>subst h
  .by_cases c:d=bk/\f=be
   .cases hn:ew d<;>simp[c,hn,ha]
    all_goals grind
   .simp[c]
  .by_cases c:d=bk/\f=be
   .cases hn:ew d<;>simp[c,hn,ha]
    all_goals grind
   .simp[c]
  .by_cases c:bk=2<;>by_cases e:d=2<;>by_cases k3:d=3<;>simp[c,e,k3,mC,RN]
  .by_cases c:bk=4<;>by_cases e:d=3<;>by_cases k3:d=4<;>simp[c,e,k3,RX,RN]
  .by_cases c:bk=2<;>by_cases e:d=2<;>by_cases k3:d=3<;>by_cases k4:bk=3<;>simp[c,e,k3,k4,mC,RN,RX]
   all_goals simp_all
  .by_cases c:d=3<;>by_cases e:bk=3<;>simp[c,e]
   simp_all
  .by_cases c:d=bk/\f=be
   .cases hn:ew d<;>by_cases k5:d=5<;>simp[c,hn,k5,ha]
    all_goals grind
   .simp[c]
  .by_cases c:d=bk/\f=be
   .cases hn:ew d<;>by_cases k5:d=5<;>simp[c,hn,k5,ha]
    all_goals grind
   .simp[c]
  .by_cases c:d=bk<;>by_cases e:f=be<;>simp[c,e,VE]
  .by_cases c:d=bk<;>by_cases e:f=be<;>simp[c,e,VE]
  .by_cases c:d=bk/\f=be
   .cases hn:ew d<;>by_cases k5:d=5<;>simp[c,hn,k5,VE]
    all_goals grind[VE]
   .simp[c]
  .by_cases c:d=bk/\f=be
   .cases hn:ew d<;>by_cases k5:d=5<;>simp[c,hn,k5,VE]
    all_goals grind[VE]
   .simp[c]
  .by_cases c:d=1<;>by_cases e:bk=1<;>simp[c,e]
   grind
  .by_cases c:d=1<;>by_cases e:bk=1<;>simp[c,e]
   grind
  .by_cases c:d=5<;>by_cases e:bk=2<;>simp[c,e]
   simp_all
  .by_cases c:d=5<;>by_cases e:bk=2<;>simp[c,e]
   simp_all
  .by_cases c:d=5<;>by_cases e:bk=5<;>simp[c,e,mC]
  .by_cases c:d=5<;>by_cases e:bk=5<;>simp[c,e,mC]
 obtain⟨t',ok,g,h3⟩:=hr
 grind[r4]
theorem AQ{n:GNode}{ops:List GType}{s:GSignature}(e:1<=n.Op/\n.Op<=39) (hN:Xa n) (d:(ops.length:Int)=Ab n.Op) (hv:∀t∈ops,ja t s.Enums=true):pC n ops s:=by
 obtain⟨op,N⟩:=n;simp only at e d;unfold Ab at d;by_cases f:(1<=op/\op<=9)\/(35<=op/\op<=39)
 .rw[if_pos f]at d;obtain rfl:ops=[]:=gab (by omega);rcases(by omega:(1<=op/\op<=5)\/op=6\/op=7\/op=8\/op=9\/op=35\/(36<=op/\op<=39))with h|h|h|h|h|h|h
  .exact NV h rfl
  all_goals grind[baa,caa,daa,eaa,VZ,OV]
 rw[if_neg f]at d;by_cases g:op=10\/op=25\/(31<=op/\op<=34)
 .rw[if_pos g]at d;obtain⟨a,rfl⟩:∃a,ops=[a]:=by
   match ops,d with
   |[a],_=>simp
  have ha:=hv a (by simp);rcases(by omega:(op=10\/op=25\/op=31\/op=32)\/op=33\/op=34)with h|h|h
  all_goals grind[PV,TZ,UZ]
 rw[if_neg g]at d;by_cases h2:op=26
 .rw[if_pos h2]at d;obtain⟨a,b,c,rfl⟩:∃a b c,ops=[a,b,c]:=by
   match ops,d with
   |[a,b,c],_=>simp
  grind[SZ]
 rw[if_neg h2,if_pos (by omega)]at d;obtain⟨a,b,rfl⟩:∃a b,ops=[a,b]:=by
  match ops,d with
  |[a,b],_=>simp
 grind[QV]
def Oc(e:List GNode) (i:Nat):Nat:=(Ab (Aa e i).Op).toNat
noncomputable def By(e:List GNode) (s:GSignature) (st:List GType) (i:Nat):GType×Int:=(Ja (Aa e i) (st.drop (st.length-Oc e i)) s).getD (⟨0,0⟩,0)
noncomputable def Ps(e:List GNode) (s:GSignature):Nat->List GType
 |0=>[]
 |i+1=>(Ps e s i).take ((Ps e s i).length-Oc e i)++[(By e s (Ps e s i) i).1]
noncomputable def Iu(e:List GNode) (s:GSignature) (i:Nat):Option (GType×Int×Int):=
 if(By e s (Ps e s i) i).2=0 then none else some (⟨0,0⟩,(i:Int),(By e s (Ps e s i) i).2)
noncomputable def Uj(e:List GNode) (s:GSignature):GType×Int×Int:=
 if(Jm e).2.2=0 then(match ff (Iu e s) e.length with|some v=>v|none=>((Ps e s e.length)[0]?.getD ⟨0,0⟩,0,0))else(⟨0,0⟩,(Jm e).2.1,(Jm e).2.2)
structure Wst (e:List GNode):Prop where
 pos:0<e.length
 le:e.length<=48
 err:∀i,i<e.length->Xw e i=none
 one:(Bg e e.length).2.length<=1
theorem DA{e:List GNode}(h:(Jm e).2.2=0):Wst e:=by
 unfold Jm at h;split at h
 .grind
 split at h
 .grind
 rename_i h48 h0;split at h
 .grind[Xw,Oa]
 .rename_i hn;split at h
  .grind
  .exact⟨by omega,by omega,Hb.1 hn,by omega⟩
theorem Wst.ar{e:List GNode}(h:Wst e) {i:Nat}(hi:i<e.length):0<=Ab (Aa e i).Op/\Oc e i<=(Bg e i).2.length/\(1<=(Aa e i).Op/\(Aa e i).Op<=39):=by
 have:=h.err i hi
 grind[Xw,Oc,tC]
theorem PH{e:List GNode}{i:Nat}:(Bg e (i+1)).2.length=(Bg e i).2.length-Oc e i+1:=by
 simp[Bg,Oc]
theorem KV{e:List GNode}(hN:∀n∈e,Xa n) {i:Nat}(hi:i<e.length):Xa (Aa e i):=by
 rw[←Qe hi];simp_all
theorem pv{e:List GNode}{s:GSignature}(h:Wst e) (hN:∀n∈e,Xa n):∀i,i<=e.length->(∀j,j<i->Iu e s j=none)->(Ps e s i).length=(Bg e i).2.length/\∀t∈Ps e s i,ja t s.Enums=true
 |0,_,_=>by simp[Ps,Bg]
 |i+1,hi,ht=>by
  obtain⟨h1,h2⟩:=pv h hN i (by omega) λj hj=>ht j (by omega);obtain⟨a1,a2,a⟩:=h.ar (i:=i) (by omega);refine⟨by grind[Ps,PH],?_⟩;intro t hm;simp only[Ps,List.mem_append,oac]at hm;rcases hm with hm|rfl
  .grind
  .obtain⟨r,hr,hv⟩:=AQ (n:=Aa e i) (ops:=(Ps e s i).drop ((Ps e s i).length-Oc e i)) (s:=s) a (KV hN (by omega)) (by grind[Oc]) (λt ht=>h2 t (iad ht));have hz:=ht i (by omega)
   grind[Iu,By]
theorem qy{e:List GNode}{s:GSignature}(h:Wst e) (hN:∀n∈e,Xa n) {i:Nat}(hi:i<e.length) (ht:∀j,j<i->Iu e s j=none) :
 Ja (Aa e i) ((Ps e s i).drop ((Ps e s i).length-Oc e i)) s=some (By e s (Ps e s i) i):=by
 obtain⟨h1,h2⟩:=pv h hN i (by omega) ht;obtain⟨a1,a2,a⟩:=h.ar hi;obtain⟨r,hr,hv⟩:=AQ (n:=Aa e i) (ops:=(Ps e s i).drop ((Ps e s i).length-Oc e i)) (s:=s) a (KV hN hi) (by grind[Oc]) (λt ht=>h2 t (iad ht))
 grind[By]
theorem w0{e:List GNode}{s:GSignature}(h:Wst e) (hN:∀n∈e,Xa n) {i:Nat}(hi:i<e.length) (ht:∀j,j<i->Iu e s j=none) :
 Ja (Aa e i) ((Ps e s i).drop ((Ps e s i).length-Oc e i)) s=some (By e s (Ps e s i) i)/\Sa (Aa e i) ((Ps e s i).drop ((Ps e s i).length-Oc e i)) s=some (By e s (Ps e s i) i):=by
 obtain⟨h1,h2⟩:=pv h hN i (by omega) ht;obtain⟨a1,a2,a⟩:=h.ar hi;obtain⟨e1,r,hr,hv⟩:=A0 (n:=Aa e i) (ops:=(Ps e s i).drop ((Ps e s i).length-Oc e i)) (s:=s) a (KV hN hi) (by grind[Oc]) (λt ht=>h2 t (iad ht))
 grind[qy]
theorem vy{e:List GNode}(hN:∀n∈e,Xa n) (s:GSignature):ko e s=some (Uj e s):=by
 unfold ko Uj;rw[dv,Kaa];by_cases c:(Jm e).2.2=0
 .rw[if_neg (by omega),if_pos c];have hw:=DA c;have hl:da (Xl e s) (([]:List GType),0)=some (jc (Ps e s e.length) (ff (Iu e s) e.length)):=by
   refine bc (λi=>(Ps e s i,(i:Int))) (Iu e s) e.length _ (λi hi ht=>?_) (λ_=>?_)
   .obtain⟨n1,f⟩:=w0 hw hN hi ht;obtain⟨d,h2⟩:=pv hw hN i (by omega) ht;obtain⟨a1,a2,a3⟩:=hw.ar hi;have hle:=hw.le;have h12:=Sp (e:=e) (i:=i) λj hj=>hw.err j (by omega);unfold Xl Iu;simp only;have a:ca .i64 (((Ps e s i).length:Int)-Ab (Aa e i).Op)=(((Ps e s i).length-Oc e i:Nat):Int):=by
     grind[Oc,wid]
    rw[if_pos (by omega),Ca hi,Kaa,Qe hi,Av,Kaa,a,P5 (by omega),Kaa,f,Kaa];by_cases b:(By e s (Ps e s i) i).2=0
    .rw[if_neg (by omega),if_pos b,nw (by omega),Kaa,wi (by grind),Kaa,ya (by omega)];rfl
    .rw[if_pos b,if_neg b];rfl
   grind[Xl]
  rw[hl]
  cases hf:ff (Iu e s) e.length with
  |some v=>rfl
  |none=>
   obtain⟨d,h2⟩:=pv (s:=s) hw hN e.length (by omega) (Hb.1 hf);have:0<(Ps e s e.length).length:=by
    rw[d];obtain⟨k,hk⟩:∃k,e.length=k+1:=⟨e.length-1,by have:=hw.pos;omega⟩
    grind[PH]
   simp only[jc,Kaa];rw[show(0:Int)=((0:Nat):Int)from rfl,Ca this,Kaa,Maa this];rfl
 simp_all
theorem Pz{e:List GNode}(hN:∀n∈e,Xa n) (s:GSignature):Pp e s=some (Uj e s):=by
 unfold Pp Uj;rw[uk,Kaa];by_cases f:(Jm e).2.2=0
 .rw[if_neg (by omega),if_pos f];have hw:=DA f;have hl:da (mn e s) (([]:List GType),0)=some (jc (Ps e s e.length) (ff (Iu e s) e.length)):=by
   refine bc (λi=>(Ps e s i,(i:Int))) (Iu e s) e.length _ (λi hi ht=>?_) (λ_=>?_)
   .have a:=qy hw hN hi ht;obtain⟨g,h2⟩:=pv hw hN i (by omega) ht;obtain⟨a1,a2,l⟩:=hw.ar hi;have hle:=hw.le;have h12:=Sp (e:=e) (i:=i) λj h=>hw.err j (by omega);unfold mn Iu;simp only;have b:ca .i64 (((Ps e s i).length:Int)-Ab (Aa e i).Op)=(((Ps e s i).length-Oc e i:Nat):Int):=by
     grind[Oc,wid]
    rw[if_pos (by omega),Ca hi,Kaa,Qe hi];unfold Ja at a;rw[Fa l]at a⊢;have h:(if¬(Aa e i).N=0 then(some (tc (Aa e i).Op)).bind λm=>some (!m)else some false)=some (!(Aa e i).N==0&&!tc (Aa e i).Op):=by
     grind
    rw[h]at a⊢;rw[Kaa]at a⊢;generalize (!(Aa e i).N==0&&!tc (Aa e i).Op)=c at a⊢;cases c
    .rw[if_neg (by simp)]at a⊢;rw[Zi,Kaa,b,P5 (by omega),Kaa,a,Kaa];by_cases d:(By e s (Ps e s i) i).2=0
     .rw[if_neg (by omega),if_pos d,nw (by omega),Kaa,wi (by grind),Kaa,ya (by omega)];rfl
     .rw[if_pos d,if_neg d];rfl
    .rw[if_pos rfl]at a⊢;injection a with a;rw[←a,if_neg (by decide)];rfl
   grind[mn]
  rw[hl]
  cases hf:ff (Iu e s) e.length with
  |some v=>rfl
  |none=>
   obtain⟨g,h2⟩:=pv (s:=s) hw hN e.length (by omega) (Hb.1 hf);have:0<(Ps e s e.length).length:=by
    rw[g];obtain⟨k,hk⟩:∃k,e.length=k+1:=⟨e.length-1,by have:=hw.pos;omega⟩
    grind[PH]
   simp only[jc,Kaa];rw[show(0:Int)=((0:Nat):Int)from rfl,Ca this,Kaa,Maa this];rfl
 simp_all
end Go.Proofs.Dev
namespace Go.Tm
theorem cw{x n:Int}:∀{l:List Int},x∈xk l n↔x∈l\/x=n
 |[]=>by simp[xk]
 |y::l=>by
  simp only[xk];split
  .grind
  .simp only[kac,cw (l:=l)];grind
abbrev EL(l:List Int):Prop:=l.Pairwise (·<·)
theorem Zx{n:Int}:∀{l:List Int},EL l->EL (xk l n)
 |[],_=>by simp[xk]
 |y::l,h=>by
  have b:=pac.1 h;simp only[xk];split
  .split
   .refine pac.2 ⟨λz a=>?_,h⟩
    grind
   omega
  .refine pac.2 ⟨λz a=>?_,Zx b.2⟩;rcases cw.1 a with a|rfl
   all_goals simp_all
theorem pB{n:Int}:∀{l:List Int},(xk l n).length<=l.length+1
 |[]=>by simp[xk]
 |y::l=>by
  simp only[xk];split
  .grind
  .have:=pB (n:=n) (l:=l);simp_all
theorem mQ{n:Int}:∀{l:List Int},(∀x∈l,x<n)->xk l n=l++[n]
 |[],_=>rfl
 |y::l,h=>by
  have:=h y (by simp);simp only[xk];rw[if_neg (by omega),mQ λx hx=>h x (by grind)];rfl
theorem TM{n:Int}{r:List Int}:∀{l:List Int},(∃x∈l,n<=x)->xk (l++r) n=xk l n++r
 |[],h=>by grind
 |y::l,h=>by
  simp only[xk,nab];split
  .grind
  .rename_i hny;rw[TM (l:=l),nab]
   simp_all
theorem LC{n x:Int}:∀{l:List Int},(∀y∈l,y<n)->n<=x->xk (l++[x]) n=l++(if n<x then [n,x]else [x])
 |[],_,h=>by simp_all[xk]
 |y::l,hl,h=>by
  have:=hl y (by simp);simp only[xk,nab];rw[if_neg (by omega),LC (λy hy=>hl y (by grind)) h]
theorem bN{α A β ρ:Type}{step:A×Int->Option (Ex (A×Int) β ρ)}(xs:List α) (f:A->α->A) (a:A) (b:β) {x0:A×Int}(hx:x0=(a,0))
 (hgo:∀(i:Nat) (hi:i<xs.length),step ((xs.take i).foldl f a,(i:Int))=some (.go (f ((xs.take i).foldl f a) xs[i],((i+1:Nat):Int)))) (hend:step (xs.foldl f a,(xs.length:Int))=some (.brk b)) :
 da step x0=some (.inl b):=by
 refine Rc (λi=>((xs.take i).foldl f a,(i:Int))) xs.length b (λi hi=>?_) ?_ (by simp_all)
 all_goals grind[tab]
end Go.Tm
namespace Go.Proofs.Dev
open Go Go.Tm
theorem rV{l:List Int}{n:Int}(hl:l.length<=1099511627776):da (Yl l n) (([]:List Int),false,0)=some (.inl (if(l.any λx=>decide (n<=x))=true then xk l n else l,l.any λx=>decide (n<=x))):=by
 refine Rc (λi=>(if((l.take i).any λx=>decide (n<=x))=true then xk (l.take i) n else l.take i,(l.take i).any λx=>decide (n<=x),(i:Int))) l.length _ (λi hi=>?_) ?_ (by simp)
 .unfold Yl;simp only;have ht:l.take (i+1)=l.take i++[l[i]]:=by simp
  have c:(l.take i).length=i:=by grind
  rw[if_pos (by omega),ht,List.any_append,Ca hi];generalize l[i]=x;generalize l.take i=p at c⊢;cases hp:p.any λx=>decide (n<=x)
  .have b:∀y∈p,y<n:=λy hy=>by
    simp_all
   simp only[if_true,Kaa,Saa,if_false,Bool.false_or,List.any_cons,List.any_nil,qae];by_cases hx:n<=x
   .rw[decide_eq_true hx];simp only[if_true];by_cases a:n<x
    .rw[if_pos a,wi (by grind),Kaa,Kaa,Kaa];simp only;rw[wi (by grind),Kaa,ya (by omega),LC b hx,if_pos a];simp
    .rw[if_neg a,Kaa,Kaa];simp only;rw[wi (by grind),Kaa,ya (by omega),LC b hx,if_neg a]
   .rw[decide_eq_false hx];simp only[Saa,if_false,Kaa]
    grind[wi,ya]
  .have hex:∃y∈p,n<=y:=by
    simp_all
   have:=pB (n:=n) (l:=p);simp only[jab,if_false,Kaa,if_true,Saa,Bool.true_or]
   grind[wi,ya,TM]
 grind[Yl]
theorem Hq{l:List Int}{n:Int}(hl:l.length<=1099511627776):Gl l n=some (xk l n):=by
 unfold Gl;rw[rV hl,Kaa];simp only;cases hp:l.any λx=>decide (n<=x)
 .have hall:∀y∈l,y<n:=λy hy=>by
   simp_all
  simp only[if_true,Saa,if_false]
  grind[wi,mQ]
 simp
theorem xy{l:List Int}{n:Int}(hl:l.length<=1099511627776):Il l n=some (xk l n):=by
 rw[←Hq hl];rfl
end Go.Proofs.Dev
namespace Go.Tm
theorem UF{l:List Int}{x:Int}:Wc (l++[x])=xk (Wc l) x:=by simp[Wc,List.foldl_append]
theorem qe(l:List Int):EL (Wc l)/\(Wc l).length<=l.length/\∀x,x∈Wc l↔x∈l:=by
 have key:∀(l a:List Int),EL a->EL (l.foldl xk a)/\(l.foldl xk a).length<=a.length+l.length/\∀x,x∈l.foldl xk a↔x∈a\/x∈l:=by
  intro l
  induction l with
  |nil=>simp
  |cons y l d=>
   intro a h;obtain⟨b,h2,c⟩:=d (xk a y) (Zx h);have:=pB (n:=y) (l:=a);refine⟨b,by grind,λx=>?_⟩
   simp_all[mac,cw,kac,or_assoc]
 obtain⟨b,h2,c⟩:=key l [] (by simp)
 grind[Wc]
theorem gF{lo hi:Int}:∀{a:List Int},EL a->(∀x∈a,lo<=x/\x<hi)->a.length<=(hi-lo).toNat
 |[],_,_=>by simp
 |x::a,h,hb=>by
  have b:=pac.1 h;have hx:=hb x (by simp);have:=gF (lo:=x+1) (hi:=hi) b.2 λy hy=>⟨by grind,(hb y (by grind)).2⟩
  grind
theorem gB:∀{a b:List Int},EL a->EL b->(∀x,x∈a↔x∈b)->a=b
 |[],[],_,_,_=>rfl
 |[],y::b,_,_,h=>by have:=(h y).2 (by simp);simp_all
 |x::a,[],_,_,h=>by have:=(h x).1 (by simp);simp_all
 |x::a,y::b,ha,hb,h=>by
  have c:=pac.1 ha;have d:=pac.1 hb;have e:x=y:=by
   have h1:=(h x).1 (by simp);have h2:=(h y).2 (by simp)
   grind
  subst e;rw[gB c.2 d.2 λz=>?_]
  grind
end Go.Tm
namespace Go.Proofs.Dev
open Go Go.Tm
def Eu(p:GNode->Bool) (e:List GNode):List Int:=Wc ((e.filter p).map (·.N))
theorem EU{p:GNode->Bool}{l:List GNode}{x:GNode}:Eu p (l++[x])=if p x=true then xk (Eu p l) x.N else Eu p l:=by
 unfold Eu;rw[aac,List.map_append];by_cases h:p x=true
 all_goals simp_all[if_pos,List.filter_cons_of_pos,List.filter_nil,UF,if_neg,List.filter_cons_of_neg]
theorem Em{p:GNode->Bool}{e:List GNode}:(Eu p e).length<=e.length:=by
 grind[Eu,qe,Pab]
def UM(n:GNode):Bool:=n.Op==7
def Od(n:GNode):Bool:=n.Op==8
def js(n:GNode):Bool:=n.Op==36 || n.Op==37 || n.Op==38 || n.Op==39
def Bi(e:List GNode):List Int×List Int×List Int:=(Eu UM e,Eu Od e,Eu js e)
theorem gB:∀{a b:List Int},EL a->EL b->(∀x,x∈a↔x∈b)->a=b
 |[],[],_,_,_=>rfl
 |[],y::b,_,_,h=>by have:=(h y).2 (by simp);simp_all
 |x::a,[],_,_,h=>by have:=(h x).1 (by simp);simp_all
 |x::a,y::b,ha,hb,h=>by
  obtain⟨ha1,c⟩:=pac.1 ha;obtain⟨hb1,d⟩:=pac.1 hb;have e:x=y:=by
   have h1:=(h x).1 (by simp);have h2:=(h y).2 (by simp)
   grind
  subst e;rw[gB c d λz=>?_]
  grind
theorem Lz{d:Array Int}(k:∀i j,i<j->j<d.size->d[i]!<=d[j]!):∀m,m<=d.size->EL (Go.Lib.compactUpTo d m)/\∀x,x∈Go.Lib.compactUpTo d m↔∃i,i<m/\d[i]! = x
 |0,_=>⟨by simp[Go.Lib.compactUpTo,EL],by simp[Go.Lib.compactUpTo]⟩
 |m+1,hm=>by
  obtain⟨b,e⟩:=Lz k m (by omega);have g:∀i,i<m->d[i]!<=d[m-1]!:=by
   intro i hi;by_cases h:i=m-1
   .simp_all
   .exact k i (m-1) (by omega) (by omega)
  rw[Go.Lib.compactUpTo_succ];by_cases hk:Go.Lib.keeps d m=true
  .rw[if_pos hk];refine⟨?_,λx=>?_⟩
   .unfold EL;rw[List.pairwise_append];refine⟨b,by simp,λa ha c hc=>?_⟩;obtain⟨i,hi,rfl⟩:=(e a).1 ha;obtain rfl:=oac.1 hc;have hne:d[m]!≠d[m-1]!:=by
     have:=of_decide_eq_true hk;omega
    have h1:=g i hi;have h2:=k (m-1) m (by omega) (by omega);omega
   grind
  .rw[if_neg hk,List.append_nil];refine⟨b,λx=>?_⟩;rw[e];have f:Go.Lib.keeps d m=false:=by simp_all
   have hmm:¬(m=0\/d[m]!≠d[m-1]!):=of_decide_eq_false f
   grind
theorem Dr(l:List Int):Go.Lib.compact (l.mergeSort λx y=>decide (x<=y))=Wc l:=by
 have hp:=List.pairwise_mergeSort (le:=λ(x y:Int)=>decide (x<=y)) (λa b c e h2=>by grind) (λa b=>by grind) l;have hm:∀x,x∈(l.mergeSort λx y=>decide (x<=y))↔x∈l:=λx=>List.mem_mergeSort;generalize (l.mergeSort λx y=>decide (x<=y))=q at *;obtain⟨e,h2⟩:=Lz (d:=q.toArray) (λi j hij hj=>by
  grind[List.pairwise_iff_getElem]) q.length (by simp)
 obtain⟨g1,-,g2⟩:=qe l;refine gB e g1 λx=>?_;unfold Go.Lib.compact;rw[h2,g2,←hm x];constructor
 .grind
 .intro h;obtain⟨i,hi,rfl⟩:=List.mem_iff_getElem.1 h;exact⟨i,hi,by simp_all⟩
theorem Ts{l:List Int}(h:l.length<=1099511627776):Mj l=some (Wc l):=by
 unfold Mj gb Ra;rw[if_pos (by omega),Kaa,if_pos (by simp;omega),Kaa,Dr]
theorem Qv{l:List Int}(h:l.length<=8796093022208):Ch l=some (Wc l):=by
 simp_all[Ch,gb,Ra,if_pos,Kaa,Dr]
theorem Vx{p:GNode->Bool}{l:List GNode}{x:GNode}:((l++[x]).filter p).map (·.N)=if p x=true then(l.filter p).map (·.N)++[x.N]else(l.filter p).map (·.N):=by
 grind
theorem wg{e:List GNode}(h:e.length<=1099511627776):Sd e=some (Bi e):=by
 unfold Sd;have hb:∀(p:GNode->Bool) (i:Nat),(((e.take i).filter p).map (·.N)).length<=e.length:=λp i=>by
  grind
 have hl:da (Hh e) (([]:List Int),([]:List Int),([]:List Int),0)=some (.inl ((e.filter UM).map (·.N),(e.filter Od).map (·.N),(e.filter js).map (·.N))):=by
  refine Rc (λi=>(((e.take i).filter UM).map (·.N),((e.take i).filter Od).map (·.N),((e.take i).filter js).map (·.N),(i:Int))) e.length _ (λi hi=>?_) ?_ rfl
  .have ht:e.take (i+1)=e.take i++[e[i]]:=by simp
   have b1:=hb UM i;have b2:=hb Od i;have b3:=hb js i;unfold Hh;simp only;rw[if_pos (by omega),Ca hi,Kaa,ya (by omega),ht,Vx,Vx,Vx]
   grind[UM,Od,js,wi]
  simp_all[Hh,if_neg,Eac]
 have c:∀p:GNode->Bool,((e.filter p).map (·.N)).length<=1099511627776:=λp=>by
  grind
 rw[hl,Kaa];simp only;rw[Ts (c UM),Kaa,Ts (c Od),Kaa,Ts (c js),Kaa];rfl
theorem fu{e:List GNode}(h:e.length<=1099511627776):qh e=some (Bi e):=by
 unfold qh;have hl:da (Pg e) (([]:List Int),([]:List Int),([]:List Int),0)=some (.inl (Bi e)):=by
  refine Rc (λi=>((Bi (e.take i)).1,(Bi (e.take i)).2.1,(Bi (e.take i)).2.2,(i:Int))) e.length _ (λi hi=>?_) ?_ rfl
  .have ht:e.take (i+1)=e.take i++[e[i]]:=by simp
   have a:(e.take i).length<=1099511627776:=by grind
   have b:=Em (p:=UM) (e:=e.take i);have c:=Em (p:=Od) (e:=e.take i);have d:=Em (p:=js) (e:=e.take i);unfold Pg Bi;simp only[ht,EU];rw[if_pos (by omega),Ca hi,ya (by omega)];generalize e[i]=x;simp only[Kaa,Hq (dac b a),Hq (dac c a),Hq (dac d a),sy]
   grind[Laa,decide,UM,xk,Eu,Od,js]
  grind[Pg]
 simp_all
def fy(n:Int) (a:List Int) (x:Int):List Int:=if 0<=x/\x<n then xk a x else a
def EA(n:Int) (a:List Int):Prop:=EL a/\∀x∈a,0<=x/\x<n
theorem EA.len{n:Int}{a:List Int}(h:EA n a):a.length<=n.toNat:=by
 have:=gF (lo:=0) (hi:=n) h.1 h.2;omega
theorem EA.nil{n:Int}:EA n []:=⟨by simp,by simp⟩
theorem EA.ins{n:Int}{a:List Int}{x:Int}(h:EA n a):EA n (fy n a x):=by
 unfold fy;split
 .rename_i hx;refine⟨Zx h.1,λy b=>?_⟩;rcases cw.1 b with b|rfl
  .exact h.2 y b
  omega
 omega
theorem EA.fold{n:Int}:∀{l a:List Int},EA n a->EA n (l.foldl (fy n) a)
 |[],a,h=>h
 |x::l,a,h=>EA.fold (l:=l) h.ins
theorem MG{n x:Int}:∀{l a:List Int},x∈l.foldl (fy n) a↔x∈a\/(x∈l/\0<=x/\x<n)
 |[],a=>by simp
 |y::l,a=>by
  simp only[mac];rw[MG (l:=l)];unfold fy;split
  .rename_i hy;rw[cw,kac]
   grind
  grind
theorem uA(s:GScope) (d:Int):ju s d=some (decide (0<=d)&&decide (d<(s.Defs.length:Int))):=by
 grind[ju]
def Ey(r:GRule):List Int:=Eu Od r.Guard++Eu Od r.Value
def RF(n d:Int) (a:List Int) (r:GRule):List Int:=if r.Def=d then(Ey r).foldl (fy n) a else a
def QA(s:GScope) (d:Int):List Int:=if 0<=d/\d<(s.Defs.length:Int)then s.Rules.foldl (RF s.Defs.length d) []else []
structure ScOk (s:GScope):Prop where
 defs:s.Defs.length<=1048576
 rules:s.Rules.length<=1048576
 g:∀r∈s.Rules,r.Guard.length<=1048576/\r.Value.length<=1048576
theorem FU{n d:Int}{a:List Int}{r:GRule}(h:EA n a):EA n (RF n d a r):=by
 unfold RF;split
 .exact h.fold
 omega
theorem Ox{n d:Int}:∀{l:List GRule}{a:List Int},EA n a->EA n (l.foldl (RF n d) a)
 |[],a,h=>h
 |r::l,a,h=>Ox (l:=l) (FU h)
theorem RA(s:GScope) (d:Int):EA s.Defs.length (QA s d):=by
 grind[QA,Ox,EA.nil]
theorem HD{s:GScope}(f:ScOk s) {l:List Int}(hl:l.length<=1099511627776) {a:List Int}(ha:EA s.Defs.length a) {step:List Int×Int->Option (Ex (List Int×Int) (List Int) Unit)}
 (c:∀(a:List Int) (i:Nat) (hi:i<l.length),step (a,(i:Int))=(Laa (α:=List Int) (if(decide (0<=l[i])&&decide (l[i]<(s.Defs.length:Int)))=true then(Il a l[i]).bind λx=>some x else some a) λj=>some (.go (j,ca .i64 ((i:Int)+1)))))
 (d:∀a,step (a,(l.length:Int))=some (.brk a)):da step (a,0)=some (.inl (l.foldl (fy s.Defs.length) a)):=by
 refine bN l (fy s.Defs.length) a _ rfl (λi hi=>?_) (d _);have e:=(EA.fold (l:=l.take i) ha).len;have:=f.defs;rw[c _ i hi,ya (by omega)];generalize (l.take i).foldl (fy s.Defs.length) a=b at e⊢;unfold fy;by_cases h:0<=l[i]/\l[i]<(s.Defs.length:Int)
 .rw[if_pos (by simp_all),if_pos h,xy (by omega)];rfl
 grind
theorem wy{s:GScope}(b:ScOk s) (d:Int):mo s d=some (QA s d):=by
 unfold mo QA;rw[uA,Kaa];by_cases hd:0<=d/\d<(s.Defs.length:Int)
 .rw[if_neg (by simp_all),if_pos hd];have hl:da (Ik s d) (([]:List Int),0)=some (.inl (s.Rules.foldl (RF s.Defs.length d) [])):=by
   refine bN s.Rules (RF s.Defs.length d) [] _ rfl (λi hi=>?_) ?_
   .have c:EA s.Defs.length ((s.Rules.take i).foldl (RF s.Defs.length d) []):=Ox EA.nil;have:=b.rules;have j:=b.g _ (Qaa hi);unfold Ik;simp only;rw[if_pos (by omega),Ca hi,ya (by omega)];generalize (s.Rules.take i).foldl (RF s.Defs.length d) []=a at c⊢;generalize s.Rules[i]=r at j⊢;unfold RF;by_cases h:r.Def=d
    .rw[if_pos h,Kaa,if_neg (by omega),fu (by omega),Kaa,fu (by omega),Kaa];have l1:=Em (p:=Od) (e:=r.Guard);have l2:=Em (p:=Od) (e:=r.Value);have f:da (qo s (Bi r.Guard)) (a,0)=some (.inl ((Eu Od r.Guard).foldl (fy s.Defs.length) a)):=by
      refine HD b (l:=Eu Od r.Guard) (by omega) c (λa i hi=>?_) (λa=>?_)
      all_goals simp_all[qo,Bi,if_pos,Ca,Kaa,uA]
     rw[f,Kaa];simp only;have b2:da (oo s (Bi r.Value)) ((Eu Od r.Guard).foldl (fy s.Defs.length) a,0)=some (.inl ((Eu Od r.Value).foldl (fy s.Defs.length) ((Eu Od r.Guard).foldl (fy s.Defs.length) a))):=by
      refine HD b (l:=Eu Od r.Value) (by omega) (EA.fold c) (λa i hi=>?_) (λa=>?_)
      all_goals simp_all[oo,Bi,if_pos,Ca,Kaa,uA]
     grind[Ey]
    simp_all
   grind[Ik]
  simp_all
 grind
def vF(s:GScope) (d x:Int):Prop:=(0<=d/\d<(s.Defs.length:Int))/\(0<=x/\x<(s.Defs.length:Int))/\∃r∈s.Rules,r.Def=d/\x∈Ey r
theorem tB{s:GScope}{d x:Int}:x∈QA s d↔vF s d x:=by
 have key:∀(l:List GRule) (a:List Int),x∈l.foldl (RF s.Defs.length d) a↔x∈a\/(0<=x/\x<(s.Defs.length:Int))/\∃r∈l,r.Def=d/\x∈Ey r:=by
  intro l
  induction l with
  |nil=>simp
  |cons r l b=>
   intro a;simp only[mac];rw[b];unfold RF;split
   .rename_i hr;rw[MG]
    grind
   simp_all
 unfold QA vF
 simp_all
end Go.Proofs.Dev
namespace Go.Tm
theorem Tz{α:Type} [DecidableEq α]:∀{a b:List α},a.Nodup->(∀x∈a,x∈b)->a.length<=b.length
 |[],b,_,_=>by simp
 |x::a,b,h,hs=>by
  obtain⟨h1,h2⟩:=dae.1 h;have:=Tz (a:=a) (b:=b.erase x) h2 λy hy=>by
   grind
  grind
theorem wJ{a:List Int}(h:EL a):a.Nodup:=h.imp λh he=>by omega
end Go.Tm
namespace Go.Proofs.Dev
open Go Go.Tm
inductive Way (s:GScope):Int->Int->Prop
 |one {a b:Int} (h:vF s a b):Way s a b
 |step {a b c:Int} (h:Way s a b) (h2:vF s b c):Way s a c
def X3(s:GScope) (a:List Int) (x:Int):List Int:=(QA s x).foldl xk a
def trR(s:GScope) (a:List Int):List Int:=a.foldl (X3 s) a
def jC(s:GScope) (d:Int):Nat->List Int
 |0=>QA s d
 |k+1=>trR s (jC s d k)
theorem MC{n:Int}:∀{l a:List Int},(∀x∈l,0<=x/\x<n)->l.foldl xk a=l.foldl (fy n) a
 |[],a,_=>rfl
 |x::l,a,h=>by
  simp only[mac];rw[show fy n a x=xk a x from if_pos (h x (by simp)),MC λy hy=>h y (by grind)]
theorem IX(s:GScope) (a:List Int) (x:Int):X3 s a x=(QA s x).foldl (fy s.Defs.length) a:=MC (RA s x).2
theorem Y3{s:GScope}{a:List Int}{x:Int}(h:EA s.Defs.length a):EA s.Defs.length (X3 s a x):=by rw[IX];exact h.fold
theorem Z3{s:GScope}{a:List Int}{x y:Int}:y∈X3 s a x↔y∈a\/vF s x y:=by
 rw[IX,MG];constructor
 .grind[tB]
 .rintro(h|h)
  .simp_all
  .exact .inr ⟨tB.2 h,h.2.1⟩
theorem CA{s:GScope}:∀{l a:List Int},EA s.Defs.length a->EA s.Defs.length (l.foldl (X3 s) a)
 |[],a,h=>h
 |x::l,a,h=>CA (l:=l) (Y3 h)
theorem zu{s:GScope}{y:Int}:∀{l a:List Int},y∈l.foldl (X3 s) a↔y∈a\/∃x∈l,vF s x y
 |[],a=>by simp
 |x::l,a=>by
  simp only[mac];rw[zu (l:=l),Z3]
  grind
theorem kC(s:GScope) (d:Int):∀k,EA s.Defs.length (jC s d k)
 |0=>RA s d
 |k+1=>CA (kC s d k)
theorem tD{s:GScope}{d y:Int}:∀{k:Nat},y∈jC s d k->Way s d y
 |0,h=>.one (tB.1 h)
 |k+1,h=>by
  rcases zu.1 h with h|⟨x,a,h2⟩
  .exact tD h
  .exact .step (tD a) h2
theorem YH{s:GScope}{d y:Int}{k:Nat}(h:y∈jC s d k):y∈jC s d (k+1):=zu.2 (.inl h)
theorem ON{s:GScope}{d y:Int}(h:vF s d y):∀k,y∈jC s d k
 |0=>tB.2 h
 |k+1=>YH (ON h k)
def F6(s:GScope) (a:List Int):Prop:=∀x∈a,∀y,vF s x y->y∈a
open Classical in
theorem PN{s:GScope}{d:Int}:∀k,F6 s (jC s d k)\/k+1<=(jC s d k).length
 |0=>by
  cases h:jC s d 0 with
  |nil=>exact .inl λx hx=>by simp at hx
  |cons x l=>exact .inr (by simp)
 |k+1=>by
  by_cases hc:F6 s (jC s d k)
  .refine .inl λx hx y g=>?_;have c:x∈jC s d k:=by
    rcases zu.1 hx with h|⟨z,n,h2⟩
    .exact h
    .exact hc z n x h2
   exact YH (hc x c y g)
  .rcases PN k with h|h
   .exact(hc h).elim
   .right;obtain⟨x,hx⟩:=gae.1 hc;obtain⟨e,f⟩:=xae.1 hx;obtain⟨y,g⟩:=gae.1 f;obtain⟨i,j⟩:=xae.1 g;have:=Tz (a:=y::jC s d k) (b:=jC s d (k+1)) (dae.2 ⟨j,wJ (kC s d k).1⟩) λz m=>by
     rcases kac.1 m with rfl|m
     .exact zu.2 (.inr ⟨x,e,i⟩)
     .exact YH m
    simp only[List.length_cons]at this;omega
theorem JX(s:GScope) (d:Int):F6 s (jC s d s.Defs.length):=by
 rcases PN (s:=s) (d:=d) s.Defs.length with h|h
 .exact h
 .have:=(kC s d s.Defs.length).len;omega
theorem oF{s:GScope}{d y:Int}:y∈jC s d s.Defs.length↔Way s d y:=by
 constructor
 .exact tD
 .intro h
  induction h with
  |one h=>grind[ON]
  |step h h2 a=>exact JX s d _ a _ h2
theorem tA{s:GScope}(f:ScOk s) (d:Int):Jk s d=some (jC s d s.Defs.length):=by
 unfold Jk;have hn:=f.defs;have round:∀a,EA s.Defs.length a->da (cg s a) (a,0)=some (.inl (trR s a)):=by
  intro a ha;have:=ha.len;refine bN a (X3 s) a _ rfl (λi hi=>?_) (by grind[cg,trR]);have e:EA s.Defs.length ((a.take i).foldl (X3 s) a):=CA ha;unfold cg;simp only;rw[if_pos (by omega),Ca hi,Kaa,wy f,Kaa,ya (by omega)];generalize (a.take i).foldl (X3 s) a=b at e⊢;have hd:=(RA s a[i]).len;have hb:da (bg (QA s a[i])) (b,0)=some (.inl ((QA s a[i]).foldl xk b)):=by
   refine bN (QA s a[i]) xk b _ rfl (λk hk=>?_) (by grind[bg]);have c:EA s.Defs.length (((QA s a[i]).take k).foldl xk b):=by
    rw[MC λx hx=>(RA s a[i]).2 x (List.mem_of_mem_take hx)];exact e.fold
   have:=c.len;unfold bg;simp only;rw[if_pos (by omega),Ca hk,Kaa,xy (by omega),Kaa,ya (by omega)]
  rw[hb,Kaa];rfl
 have hl:da (fg s) (QA s d,0)=some (.inl (jC s d s.Defs.length)):=by
  refine Rc (λi=>(jC s d i,(i:Int))) s.Defs.length _ (λi hi=>?_) (by grind[fg]) rfl;unfold fg;simp only;rw[if_pos (by omega),round _ (kC s d i),Kaa,ya (by omega)];rfl
 grind[wy]
def vE(n:Int) (l:List Int):List Int:=l.filter λx=>decide (0<=x)&&decide (x<n)
theorem lJ{n:Int}{l a:List Int}(h:a.length+l.length<=1099511627776) {step:List Int×Int->Option (Ex (List Int×Int) (List Int) Unit)}
 (hstep:∀(a:List Int) (i:Nat) (hi:i<l.length),step (a,(i:Int))=(Laa (α:=List Int) (if(decide (0<=l[i])&&decide (l[i]<n))=true then(app 8 a [l[i]]).bind λx=>some x else some a) λj=>some (.go (j,ca .i64 ((i:Int)+1)))))
 (hend:∀a,step (a,(l.length:Int))=some (.brk a)):da step (a,0)=some (.inl (a++vE n l)):=by
 refine Rc (λi=>(a++vE n (l.take i),(i:Int))) l.length _ (λi hi=>?_) ?_ (by simp[vE])
 .have hlen:(vE n (l.take i)).length<=i:=by
   grind[vE]
  have ht:vE n (l.take (i+1))=vE n (l.take i)++(if(decide (0<=l[i])&&decide (l[i]<n))=true then [l[i]]else []):=by
   grind[vE,tab]
  grind[ya,wi]
 simp_all
theorem Vr{r:GRule}(h:r.Guard.length<=1048576/\r.Value.length<=1048576) (n:Int):Zd r n=some (vE n (Eu Od r.Guard)++vE n (Eu Od r.Value)):=by
 unfold Zd;have l1:=Em (p:=Od) (e:=r.Guard);have l2:=Em (p:=Od) (e:=r.Value);have l3:(vE n (Eu Od r.Guard)).length<=(Eu Od r.Guard).length:=Pab _ _;rw[wg (by omega),Kaa,wg (by omega),Kaa];have b:da (nf n (Bi r.Guard)) (([]:List Int),0)=some (.inl ([]++vE n (Eu Od r.Guard))):=by
  refine lJ (l:=Eu Od r.Guard) (by grind) (λa i hi=>?_) (λa=>?_)
  .unfold nf Bi;simp only;rw[if_pos (by omega),Ca hi,Kaa]
   grind
  grind[nf,Bi]
 rw[b,Kaa];simp only[List.nil_append];have b2:da (mf n (Bi r.Value)) (vE n (Eu Od r.Guard),0)=some (.inl (vE n (Eu Od r.Guard)++vE n (Eu Od r.Value))):=by
  refine lJ (l:=Eu Od r.Value) (by omega) (λa i hi=>?_) (λa=>?_)
  .unfold mf Bi;simp only;rw[if_pos (by omega),Ca hi,Kaa]
   grind
  grind[mf,Bi]
 simp_all
theorem mapM_some{α β:Type}{f:α->Option β}(g:α->β):∀{l:List α},(∀x∈l,f x=some (g x))->l.mapM f=some (l.map g)
 |[],_=>rfl
 |x::l,h=>by
  rw[List.mapM_cons,h x (by simp),mapM_some g λy hy=>h y (by grind)];rfl
def Tp(s:GScope):List (List Int):=
 (Zaa s.Defs.length).map λ(d:Nat)=>Wc ((s.Rules.filter λ(r:GRule)=>r.Def==(d:Int)).map λr=>vE s.Defs.length (Eu Od r.Guard)++vE s.Defs.length (Eu Od r.Value)).flatten
theorem Xn{s:GScope}(a:ScOk s):wc s=some (Tp s):=by
 unfold wc Tp;rw[if_pos ⟨a.defs,a.rules,a.g⟩];refine mapM_some _ λd _=>?_;rw[mapM_some (λr=>vE s.Defs.length (Eu Od r.Guard)++vE s.Defs.length (Eu Od r.Value)) λr hr=>Vr (a.g r (bac.1 hr).1) _];rfl
theorem rB{s:GScope}{d:Int}{l:List Int}(h0:0<=d) (h:(Tp s)[d.toNat]?=some l) (x:Int):x∈l↔vF s d x:=by
 unfold Tp at h;rw[List.getElem?_map]at h;by_cases hd:d.toNat<s.Defs.length
 .rw[List.getElem?_range hd]at h;simp only[Option.map_some,wab]at h;subst h;rw[(qe _).2.2];simp only[List.mem_flatten,iac,bac,beq_iff_eq,vF,Ey,vE]
  grind
 simp_all
theorem Xp(s:GScope):(Tp s).length=s.Defs.length:=by simp[Tp]
theorem MS{s:GScope}{a b:Int}(f:0<=a):ReachL (Tp s) a b↔Way s a b:=by
 constructor
 .intro h;have key:∀{b:Int},ReachL (Tp s) a b->Way s a b/\0<=b:=by
   intro b h
   induction h with
   |one h hb=>exact have:=(rB f h _).1 hb;⟨.one this,this.2.1.1⟩
   |step h hl hc e=>exact have:=(rB e.2 hl _).1 hc;⟨.step e.1 this,this.2.1.1⟩
  simp_all
 .intro h;have get:∀{d x:Int},vF s d x->∃l,(Tp s)[d.toNat]?=some l/\x∈l:=by
   intro d x hd;have c:d.toNat<(Tp s).length:=by rw[Xp];have:=hd.1;omega
   exact⟨_,Maa c,(rB hd.1.1 (Maa c) x).2 hd⟩
  induction h with
  |one h=>obtain⟨l,g,h2⟩:=get h;exact .one g h2
  |step h h2 e=>obtain⟨l,i,j⟩:=get h2;exact .step e i j
theorem kK{l:List Int}(hl:l.length<=1099511627776) (d:Int):Be l d=some (decide (d∈l)):=by
 have h:=Kp (l:=l) (p:=λx=>some (decide (d=x))) (λx=>decide (d=x)) (λx _=>rfl) (by omega) (o:=da (Ag l d) 0) (by
  unfold Ag;simp)
 have h':Be l d=some (l.any λx=>decide (d=x)):=h
 grind
open Classical in
theorem kq{s:GScope}(c:ScOk s) (d:Int):∃l,vc s d=some l/\l.length<=1048576/\∀x,x∈l↔Way s d x:=by
 unfold vc;by_cases hd:0<=d/\d<(s.Defs.length:Int)
 .have hn:=c.defs;refine⟨ZG (Tp s) d,?_,?_,?_⟩
  .rw[if_pos (by omega),Kaa,if_neg (by simp;omega),Xn c,Kaa];unfold Ui;rw[if_pos]
   .rfl
   .refine⟨by rw[Xp];omega,λl hl=>?_,hd.1,by rw[Xp];exact hd.2⟩;obtain⟨i,hi,rfl⟩:=bab hl;have hm:=λx=>rB (s:=s) (d:=(i:Int)) (l:=(Tp s)[i]) (by omega) (by rw[Int.toNat_natCast];exact Maa hi) x;have hb:∀x∈(Tp s)[i],0<=x/\x<((Tp s).length:Int):=λx hx=>by rw[Xp];exact((hm x).1 hx).2.1
    refine⟨?_,hb⟩;have a:EL (Tp s)[i]:=by simp only[Tp,List.getElem_map];exact(qe _).1
    have:=gF a hb;rw[Xp]at this;omega
  .have e:=Pab (λb=>@decide (ReachL (Tp s) d b) (Classical.propDecidable _)) ((Zaa (Tp s).length).map λ(k:Nat)=>(k:Int));unfold ZG;simp only[List.length_map,List.length_range,Xp]at e⊢;omega
  .intro x;unfold ZG;rw[bac,Xp,iac,decide_eq_true_eq,MS hd.1];constructor
   .exact λh=>h.2
   .intro h;refine⟨?_,h⟩;have:0<=x/\x<(s.Defs.length:Int):=by cases h with|one h=>exact h.2.1|step _ h=>exact h.2.1
    exact⟨x.toNat,by simp;omega,by omega⟩
 .refine⟨[],?_,by simp,λx=>?_⟩
  .have:(if¬d<0 then some (decide ((s.Defs.length:Int)<=d))else some true)=some true:=by
    by_cases h:d<0
    .rw[if_neg (by omega)]
    .rw[if_pos h,decide_eq_true (by omega)]
   rw[this];rfl
  .constructor
   .intro h;simp at h
   .intro h;exfalso;apply hd;clear hd
    induction h with
    |one h=>exact h.1
    |step h h2 f=>exact f
structure LawOk (l:GLaw):Prop where
 ne:l.Enums.length<=1048576
 nt:l.Tables.length<=1048576
 ns:l.Scopes.length<=1048576
 e:∀x∈l.Enums,x.Name.size<=1048576/\∀m∈x.Members,m.size<=1048576
 t:∀x∈l.Tables,x.Name.size<=1048576
 s:∀x∈l.Scopes,x.Name.size<=1048576/\ScOk x/\x.Inputs.length<=1048576/\(∀f∈x.Inputs,f.Name.size<=1048576)/\(∀f∈x.Defs,f.Name.size<=1048576)/\
  (∀r∈x.Rules,r.Name.size<=1048576/\r.Source.size<=1048576/\(∀n∈r.Guard,Xa n)/\∀n∈r.Value,Xa n)
theorem XL{α ρ:Type}{l:List α}{q:α->Bool}{k:Nat}(hk:k<=l.length) {g:Nat->ρ}:(ff (λi=>if i<k/\(l[i]?.any q)=true then some (g i)else none) l.length).isSome=(l.take k).any q:=by
 rw[←pn (l:=l.take k) (q:=q) (g:=g)];have h:∀m,k<=m->ff (λi=>if i<k/\(l[i]?.any q)=true then some (g i)else none) m=ff (λi=>if((l.take k)[i]?.any q)=true then some (g i)else none) k:=by
  intro m hm
  cases h1:ff (λi=>if((l.take k)[i]?.any q)=true then some (g i)else none) k with
  |none=>
   grind[Hb]
  |some v=>
   grind[Oa]
 simp_all
theorem ep{α:Type}{l:List α}{q:α->Bool}{k:Nat}(hl:l.length<=1048576) (hk:k<=l.length) {step:Int->Option (Ex Int Unit Bool)}
 (a:∀(i:Nat) (hi:i<l.length),step (i:Int)=if i<k/\q l[i]=true then some (.ret true)else some (.go ((i+1:Nat):Int))) (b:step (l.length:Int)=some (.brk ())) :
 da step 0=some (if(l.take k).any q=true then .inr true else .inl ()):=by
 have c:=bc (step:=step) (x0:=0) (λi=>(i:Int)) (λi=>if i<k/\(l[i]?.any q)=true then some true else none) l.length () (λi hi _=>by
  rw[a i hi,Maa hi,Yab];by_cases h:i<k/\q l[i]=true
  .rw[if_pos h,if_pos h];rfl
  .rw[if_neg h,if_neg h];rfl) (λ_=>b)
 rw[c,←XL (q:=q) (g:=λ_=>true) hk]
 cases hf:ff (λi=>if i<k/\(l[i]?.any q)=true then some true else none) l.length with
 |none=>rfl
 |some v=>
  obtain⟨i,-,h2,-⟩:=Oa.1 hf;split at h2
  .injection h2 with h2;subst h2;rfl
  simp_all
theorem pA{n:Nat}(hn:n<=1048576) {step:Int->Option (Ex Int Unit Bool)}(a:∀i:Nat,i<n->step (i:Int)=some (.go ((i+1:Nat):Int))) (b:step (n:Int)=some (.brk ())):da step 0=some (.inl ()):=
 Rc (λi=>(i:Int)) n () (λi hi=>a i hi) b
theorem taken1{l:GLaw}(h:LawOk l) {i:Nat}(hi:i<=l.Enums.length) (nm:ByteArray):xc l 1 (i:Int) nm=some ((l.Enums.take i).any λx=>decide (x.Name=nm)):=by
 have a:=h.ne;have c:=h.nt;have b:=h.ns;unfold xc;have h1:da (mc l 1 (i:Int) nm) 0=some (if(l.Enums.take i).any (λx=>decide (x.Name=nm))=true then .inr true else .inl ()):=ep a hi (λk hk=>by
  unfold mc;rw[if_pos (by omega),Ca hk,ya (by omega)]
  grind) (by grind[mc])
 have h2:da (eb l 1 (i:Int) nm) 0=some (.inl ()):=pA c (λk hk=>by
  unfold eb;rw[if_pos (by omega),ya (by omega)];simp) (by grind[eb])
 have h3:da (yb l 1 (i:Int) nm) 0=some (.inl ()):=pA b (λk hk=>by
  unfold yb;rw[if_pos (by omega),ya (by omega)];simp) (by grind[yb])
 grind
theorem VL{l:GLaw}(h:LawOk l) {t i:Int}(ht:1<t) (nm:ByteArray):da (mc l t i nm) 0=some (if l.Enums.any (λx=>decide (x.Name=nm))=true then .inr true else .inl ()):=by
 have a:=h.ne;have:=ep (l:=l.Enums) (q:=λx=>decide (x.Name=nm)) (k:=l.Enums.length) (step:=mc l t i nm) a (dab _) (λk hk=>by
  unfold mc;rw[if_pos (by omega),Ca hk,ya (by omega),if_neg (by omega)]
  simp_all) (by grind[mc])
 simp_all
theorem taken2{l:GLaw}(h:LawOk l) {i:Nat}(hi:i<=l.Tables.length) (nm:ByteArray):xc l 2 (i:Int) nm=some ((l.Enums.any λx=>decide (x.Name=nm)) || (l.Tables.take i).any λx=>decide (x.Name=nm)):=by
 have hne:=h.ne;have b:=h.nt;have a:=h.ns;unfold xc;have h2:da (eb l 2 (i:Int) nm) 0=some (if(l.Tables.take i).any (λx=>decide (x.Name=nm))=true then .inr true else .inl ()):=ep b hi (λk hk=>by
  unfold eb;rw[if_pos (by omega),Ca hk,ya (by omega)]
  grind) (by grind[eb])
 have h3:da (yb l 2 (i:Int) nm) 0=some (.inl ()):=pA a (λk hk=>by
  unfold yb;rw[if_pos (by omega),ya (by omega)];simp) (by grind[yb])
 grind[VL]
theorem taken3{l:GLaw}(h:LawOk l) {i:Nat}(hi:i<=l.Scopes.length) (nm:ByteArray):xc l 3 (i:Int) nm=some ((l.Enums.any λx=>decide (x.Name=nm)) || ((l.Tables.any λx=>decide (x.Name=nm)) || (l.Scopes.take i).any λx=>decide (x.Name=nm))):=by
 have hne:=h.ne;have b:=h.nt;have a:=h.ns;unfold xc;have h2:da (eb l 3 (i:Int) nm) 0=some (if l.Tables.any (λx=>decide (x.Name=nm))=true then .inr true else .inl ()):=by
  have:=ep (l:=l.Tables) (q:=λx=>decide (x.Name=nm)) (k:=l.Tables.length) (step:=eb l 3 (i:Int) nm) b (dab _) (λk hk=>by
   unfold eb;rw[if_pos (by omega),Ca hk,ya (by omega)]
   simp_all) (by grind[eb])
  simp_all
 have c:da (yb l 3 (i:Int) nm) 0=some (if(l.Scopes.take i).any (λx=>decide (x.Name=nm))=true then .inr true else .inl ()):=ep a hi (λk hk=>by
  unfold yb;rw[if_pos (by omega),Ca hk,ya (by omega)]
  grind) (by grind[yb])
 rw[VL h (by omega),h2,c]
 grind
theorem KC{l:List GEnum}(hl:l.length<=1048576) (nm:ByteArray):Vk l nm=some (l.any λx=>decide (x.Name=nm)):=by
 have h:=Kp (l:=l) (p:=λx=>Yf x nm) (λx=>decide (x.Name=nm)) (λx _=>rfl) (by omega) (o:=da (qd l (λx=>Yf x nm)) 0) rfl;have h':db l (λx=>Yf x nm)=some (l.any λx=>decide (x.Name=nm)):=h
 grind[Vk]
theorem xG{l:List GTable}(hl:l.length<=1048576) (nm:ByteArray):Dl l nm=some (l.any λx=>decide (x.Name=nm)):=by
 have h:=Kp (l:=l) (p:=λx=>Ye x nm) (λx=>decide (x.Name=nm)) (λx _=>rfl) (by omega) (o:=da (Nc l (λx=>Ye x nm)) 0) rfl;have h':Va l (λx=>Ye x nm)=some (l.any λx=>decide (x.Name=nm)):=h
 grind[Dl]
theorem TO{l:List GScope}(hl:l.length<=1048576) (y:GScope):Ua l (λx=>Dd x y)=some (l.any λx=>decide (x.Name=y.Name)):=
 Kp (l:=l) (p:=λx=>Dd x y) (λx=>decide (x.Name=y.Name)) (λx _=>rfl) (by omega) (o:=da (Mc l (λx=>Dd x y)) 0) rfl
theorem wG{l:List GField}(hl:l.length<=1048576) (y:GField):Ka l (λx=>Ic x y)=some (l.any λx=>decide (x.Name=y.Name)):=
 Kp (l:=l) (p:=λx=>Ic x y) (λx=>decide (x.Name=y.Name)) (λx _=>rfl) (by omega) (o:=da (Lc l (λx=>Ic x y)) 0) rfl
theorem dS{l:List GRule}(hl:l.length<=1048576) (y:GRule):Lb l (λx=>Ef x y)=some (l.any λx=>decide (x.Name=y.Name)):=
 Kp (l:=l) (p:=λx=>Ef x y) (λx=>decide (x.Name=y.Name)) (λx _=>rfl) (by omega) (o:=da (sd l (λx=>Ef x y)) 0) rfl
theorem mV{l:List ByteArray}(hl:l.length<=1048576) (y:ByteArray):Hd l y=some (l.any λx=>decide (x=y)):=by
 have h:=Kp (l:=l) (p:=λx=>some (decide (y=x))) (λx=>decide (x=y)) (λx _=>by grind) (by omega) (o:=da (Jd l y) 0) (by
  unfold Jd;simp)
 exact h
noncomputable def BE(x:GEnum) (k:Nat):Option (Int×Int):=
 match x.Members[k]? with
 |some m=>if wk m=false then some (2,100+(k:Int))else if((x.Members.take k).any λy=>decide (y=m))=true then some (7,100+(k:Int))else none
 |none=>none
noncomputable def Tf(l:GLaw) (i:Nat) (x:GEnum):Int×Int:=
 if wk x.Name=false then(2,0)else if((l.Enums.take i).any λy=>decide (y.Name=x.Name))=true then(7,0)
 else if x.Members.length=0 then(5,0)else if 16<x.Members.length then(4,116)else(ff (BE x) x.Members.length).getD (0,0)
theorem LZ{x:GEnum}{k:Nat}{v:Int×Int}(h:BE x k=some v):v.1≠0:=by
 grind[BE]
theorem xE{l:GLaw}(h:LawOk l) {i:Nat}(hi:i<l.Enums.length):Ro l (i:Int) l.Enums[i]=some (Tf l i l.Enums[i]):=by
 obtain⟨g1,g2⟩:=h.e _ (Qaa hi);have hne:=h.ne;generalize l.Enums[i]=x at g1 g2⊢;unfold Ro Tf;rw[Rp (by omega),Kaa];cases wk x.Name
 .rfl
 simp only[Saa,jab,if_false];rw[nw (by omega),Kaa,KC (by grind),Kaa];cases (l.Enums.take i).any λy=>decide (y.Name=x.Name)
 .simp only[Saa,jab,if_false];by_cases b:x.Members.length=0
  .simp_all
  rw[if_neg (by omega),if_neg b];by_cases a:16<x.Members.length
  .grind
  rw[if_neg (by omega),if_neg a];have hl:da (Ak x) 0=some (jc () (ff (BE x) x.Members.length)):=
   bc (λk=>(k:Int)) _ _ _ (λk hk _=>by
    have hm:=g2 _ (Qaa hk);unfold Ak BE;rw[if_pos (by omega),Ca hk,Kaa,Rp (by omega),Kaa,Maa hk,wid (n:=100+(k:Int)) (by omega) (by omega),ya (by omega),nw (by omega),Kaa,mV (by grind),Kaa];simp only;cases wk x.Members[k]
    .rfl
    .simp only[Saa,jab,if_false];cases (x.Members.take k).any λy=>decide (y=x.Members[k])<;>rfl) (λ_=>by grind[Ak])
  rw[hl];cases ff (BE x) x.Members.length<;>rfl
 .rfl
theorem EB{l:GLaw}(h:LawOk l) {i:Nat}(hi:i<l.Enums.length):Zl l (i:Int)=some (if(Tf l i l.Enums[i]).1=0 then⟨0,0,0,0⟩else⟨(Tf l i l.Enums[i]).1,1,i,(Tf l i l.Enums[i]).2⟩):=by
 obtain⟨g1,g2⟩:=h.e _ (Qaa hi);have hne:=h.ne;unfold Zl Tf;rw[Ca hi,Kaa];generalize l.Enums[i]=x at g1 g2⊢;rw[Bn (by omega),Kaa,taken1 h (by omega),Kaa];cases wk x.Name
 .rfl
 simp only[Saa,jab,if_false];cases (l.Enums.take i).any λy=>decide (y.Name=x.Name)
 .simp only[Saa,jab,if_false];by_cases m:x.Members.length=0
  .simp_all
  rw[if_neg (by omega),if_neg m];by_cases c:16<x.Members.length
  .grind
  rw[if_neg (by omega),if_neg c];have hl:da (Vh (i:Int) x) (0,0)=some (jc () ((ff (BE x) x.Members.length).map λv=>(⟨v.1,1,(i:Int),v.2⟩:GLawError))):=by
   have d:(ff (BE x) x.Members.length).map (λv=>(⟨v.1,1,(i:Int),v.2⟩:GLawError))=ff (λk=>(BE x k).map λv=>(⟨v.1,1,(i:Int),v.2⟩:GLawError)) x.Members.length:=by
    cases b:ff (BE x) x.Members.length with
    |none=>grind[Hb]
    |some v=>grind[Oa]
   rw[d];refine bc (λk=>((if k=0 then 0 else 100+((k-1:Nat):Int)),(k:Int))) _ _ _ (λk hk _=>?_) (λ_=>by grind[Vh]) (by rfl);have hm:=g2 _ (Qaa hk);unfold Vh BE;simp only;rw[if_pos (by omega),Ca hk,Kaa,Bn (by omega),Kaa,Maa hk,wid (n:=100+(k:Int)) (by omega) (by omega),ya (by omega)];have f:da (Uh (i:Int) x (k:Int) x.Members[k]) 0=some (jc () (ff (λj=>if((x.Members.take k)[j]?.any λy=>decide (y=x.Members[k]))=true then some (Ex.ret (⟨7,1,(i:Int),100+(k:Int)⟩:GLawError))else none) (x.Members.take k).length)):=
    bc (λj=>(j:Int)) _ _ _ (λj o _=>by
     have hjk:j<k:=by grind
     unfold Uh;rw[if_pos (by omega),Ca (by omega),Kaa,Maa o,wid (n:=100+(k:Int)) (by omega) (by omega),ya (by omega)];simp only[Yab,fad,decide_eq_true_eq];by_cases he:x.Members[j]=x.Members[k]
     .rw[if_pos he,if_pos he];rfl
     .rw[if_neg he,if_neg he];rfl) (λ_=>by
      grind[Uh])
   dsimp only;cases wk x.Members[k]
   .rfl
   simp only[Saa,jab,if_false];rw[f,Kaa,←pn (l:=x.Members.take k) (q:=λy=>decide (y=x.Members[k])) (g:=λ_=>(Ex.ret (⟨7,1,(i:Int),100+(k:Int)⟩:GLawError):Ex (Int×Int) Unit GLawError))]
   cases b:ff (λj=>if((x.Members.take k)[j]?.any λy=>decide (y=x.Members[k]))=true then some (Ex.ret (⟨7,1,(i:Int),100+(k:Int)⟩:GLawError):Ex (Int×Int) Unit GLawError)else none) (x.Members.take k).length with
   |none=>simp[jc,sG]
   |some v=>
    obtain⟨j,j1,a,-⟩:=Oa.1 b;split at a
    .injection a with a;subst a;rfl
    simp_all
  rw[hl]
  cases b:ff (BE x) x.Members.length with
  |none=>rfl
  |some v=>
   grind[jc,Oa,LZ]
 .rfl
noncomputable def Ko(l:GLaw) (i:Nat) (x:GTable):Int×Int:=
 if wk x.Name=false then(2,0)
 else if((l.Enums.any λy=>decide (y.Name=x.Name)) || (l.Tables.take i).any λy=>decide (y.Name=x.Name))=true then(7,0)
 else if(Ip x l.Enums).2=0 then(0,0)else((Ip x l.Enums).2,if(Ip x l.Enums).1 = -1 then 0 else 100+(Ip x l.Enums).1)
theorem RH(t:GTable) (e:List GEnum):-1<=(Ip t e).1/\(Ip t e).1<=64:=by
 unfold Ip;split
 .simp
 .split
  .simp
  .cases h:ff (kD t e) t.Rows.length with
   |none=>simp
   |some v=>
    grind[kD,Oa]
theorem kS{l:GLaw}(h:LawOk l):da (Mh l) 0=some (jc () (ff (λi=>match l.Tables[i]? with|some x=>if(Ko l i x).1=0 then none else some (⟨(Ko l i x).1,2,(i:Int),(Ko l i x).2⟩:GLawError)|none=>none) l.Tables.length)):=by
 have hnt:=h.nt;have a:=h.ne;refine bc (λk=>(k:Int)) _ _ _ (λi hi _=>?_) (λ_=>by grind[Mh]);have hx:=h.t _ (Qaa hi);unfold Mh Ko;rw[if_pos (by omega),Ca hi,Kaa,Maa hi,ya (by omega)];simp only;generalize l.Tables[i]=x at hx⊢;have hr:=RH x l.Enums;rw[oD,Kaa,Rp (by omega),Kaa,KC a,Kaa,nw (by omega),Kaa,xG (by grind),wid (n:=100+(Ip x l.Enums).1) (by omega) (by omega)]
 grind[sG]
theorem xA{l:GLaw}(h:LawOk l) {i:Nat}(hi:i<l.Tables.length):Pk l (i:Int)=some (if(Ko l i l.Tables[i]).1=0 then⟨0,0,0,0⟩else⟨(Ko l i l.Tables[i]).1,2,i,(Ko l i l.Tables[i]).2⟩):=by
 have hnt:=h.nt;have hne:=h.ne;have hx:=h.t _ (Qaa hi);unfold Pk Ko;rw[Ca hi,Kaa];generalize l.Tables[i]=x at hx⊢;have hr:=RH x l.Enums;rw[Bn (by omega),Kaa,taken2 h (by omega),Kaa,ZC,Kaa,wid (n:=100+(Ip x l.Enums).1) (by omega) (by omega)]
 grind
noncomputable def Tt(l:GLaw) (f:GField) (a b:List GField):Int:=
 if wk f.Name=false then 2 else if((a.any λy=>decide (y.Name=f.Name)) || b.any λy=>decide (y.Name=f.Name))=true then 7 else if ja f.Type_ l.Enums=false then 8 else 0
theorem Zv{l:GLaw}{f:GField}{a b:List GField}(hf:f.Name.size<=1048576) (ha:a.length<=1048576) (hb:b.length<=1048576):Jh l f a b=some (Tt l f a b):=by
 unfold Jh Tt;rw[Rp (by omega),Kaa,wG ha,Kaa,wG hb,Ha,Kaa]
 grind
theorem vr{l:List GField}{k:Nat}(hl:l.length<=1048576) (hk:k<=l.length) (nm:ByteArray):Xh l (k:Int) nm=some ((l.take k).any λy=>decide (y.Name=nm)):=by
 unfold Xh;have b:da (Aj l (k:Int) nm) 0=some (jc () (ff (λi=>if((l.take k)[i]?.any λy=>decide (y.Name=nm))=true then some true else none) (l.take k).length)):=
  bc (λi=>(i:Int)) _ _ _ (λi hi _=>by
   have hik:i<k:=by simp_all
   unfold Aj;rw[if_pos (by omega),Kaa,decide_eq_true (by omega),if_pos rfl,Ca (by omega),Kaa,Maa hi,ya (by omega)];simp only[Yab,fad,decide_eq_true_eq];by_cases he:l[i].Name=nm
   .rw[if_pos he,if_pos he];rfl
   .rw[if_neg he,if_neg he];rfl) (λ_=>by
    simp_all[Aj])
 rw[b,←pn (q:=λ(y:GField)=>decide (y.Name=nm)) (g:=λ_=>true),Kaa]
 cases h2:ff (λi=>if((l.take k)[i]?.any λy=>decide (y.Name=nm))=true then some true else none) (l.take k).length with
 |none=>rfl
 |some v=>
  obtain⟨j,j1,a,-⟩:=Oa.1 h2;split at a
  .injection a with a;subst a;rfl
  simp_all
theorem sE{l:List GField}(hl:l.length<=1048576) {step:List GType×Int->Option (Ex (List GType×Int) (List GType) Unit)}
 (hstep:∀(a:List GType) (i:Nat) (hi:i<l.length),step (a,(i:Int))=((app 16 a [l[i].Type_]).bind λx=>some (.go (x,ca .i64 ((i:Int)+1)))))
 (hend:∀a,step (a,(l.length:Int))=some (.brk a)):da step (([]:List GType),0)=some (.inl (l.map (·.Type_))):=by
 refine Rc (λi=>((l.take i).map (·.Type_),(i:Int))) l.length _ (λi hi=>?_) (by simp_all) (by simp)
 grind[wi,ya,tab]
theorem lr{l:List GField}(hl:l.length<=1048576):Oh l=some (l.map (·.Type_)):=by
 unfold Oh;rw[sE hl (step:=nj l) (λa i hi=>by simp_all[nj,Ca]) (λa=>by grind[nj])];rfl
def Jo(l:GLaw) (s:GScope):GSignature:=
 if h:0<=s.MemberScope/\s.MemberScope<(l.Scopes.length:Int)then⟨l.Enums,l.Tables,s.Inputs.map (·.Type_),s.Defs.map (·.Type_),(l.Scopes[s.MemberScope.toNat]'(by omega)).Defs.map (·.Type_),true⟩
 else⟨l.Enums,l.Tables,s.Inputs.map (·.Type_),s.Defs.map (·.Type_),[],false⟩
theorem Am{l:GLaw}(h:LawOk l) {i:Nat}(hi:i<l.Scopes.length):vd l (i:Int)=some (Jo l l.Scopes[i]):=by
 obtain⟨g1,g2,g3,-⟩:=h.s _ (Qaa hi);have gd:=g2.defs;unfold vd Jo;rw[Ca hi,Kaa];generalize l.Scopes[i]=x at gd g3⊢;rw[lr g3,Kaa,lr gd,Kaa];by_cases hm:0<=x.MemberScope/\x.MemberScope<(l.Scopes.length:Int)
 .have hd:=(h.s _ (Qaa (l:=l.Scopes) (n:=x.MemberScope.toNat) (by omega))).2.1.defs
  simp_all[Ng,lr]
 grind
theorem fv{l:GLaw}(h:LawOk l) {i:Nat}(hi:i<l.Scopes.length):Gi l (i:Int)=some (Jo l l.Scopes[i]):=by
 rw[←Am h hi];unfold Gi vd;rw[if_pos (by omega),Kaa,if_neg (by simp_all)];rfl
def YB(s:ByteArray) (i:Nat):Bool:=if h:i<s.size then decide (32<=(s[i].toNat:Int))&&decide ((s[i].toNat:Int)<=126)&&!((s[i].toNat:Int)==34)else true
def CP(s:ByteArray):Bool:=decide (s.size<=64)&&(ff (λi=>if YB s i=true then none else some false) s.size).isNone
theorem FB{s:ByteArray}(hs:s.size<=1048576):bm s=some (CP s):=by
 unfold bm CP;have a:da (Yh s) 0=some (jc () (ff (λi=>if YB s i=true then none else some false) s.size)):=
  bc (λi=>(i:Int)) _ _ _ (λi hi _=>by
   unfold Yh YB;rw[if_pos (by omega),MJ hi,Kaa,ya (by omega),dif_pos hi]
   grind[sG]) (λ_=>by grind[Yh])
 rw[a]
 cases h2:ff (λi=>if YB s i=true then none else some false) s.size with
 |none=>
  grind[decide,jc]
 |some v=>
  grind[jc,Oa]
theorem qS{s:ByteArray}{c:UInt8}:s.data.toList.contains c=true↔∃i,∃h:i<s.size,s[i]=c:=by
 rw[List.contains_iff_mem];constructor
 .intro h;obtain⟨i,hi,he⟩:=bab h;exact⟨i,by simpa using hi,by rw[←he];rfl⟩
 .rintro⟨i,hi,rfl⟩;exact Qaa (l:=s.data.toList) (n:=i) (by simp_all)
theorem oB{s:ByteArray}(hs:s.size<=1048576):Fi s=some (CP s):=by
 unfold Fi CP strings_Contains;rw[if_pos (show(Raa #[34]).size=1 from rfl)];by_cases h64:64<s.size
 .grind
 rw[if_pos (by omega),decide_eq_true (p:=s.size<=64) (by omega)];have d:da (Ph s) 0=some (jc () (ff (λi=>if(if h:i<s.size then decide (32<=(s[i].toNat:Int))&&decide ((s[i].toNat:Int)<=126)else true)=true then none else some false) s.size)):=
  bc (λi=>(i:Int)) _ _ _ (λi hi _=>by
   unfold Ph;rw[if_pos (by omega),MJ hi,Kaa,ya (by omega),dif_pos hi]
   grind[sG]) (λ_=>by grind[Ph])
 rw[d];simp only[Kaa,Iab];have hc:=qS (s:=s) (c:=34);change (s.data.toList.contains ((Raa #[34]).data.toList.headD 0))=true↔_ at hc;have h34:∀i (h:i<s.size),s[i]=34↔(s[i].toNat:Int)=34:=λi h=>by
  constructor
  .simp_all
  .intro he;apply UInt8.toNat_inj.1
   grind
 cases hq:s.data.toList.contains ((Raa #[34]).data.toList.headD 0)
 .rw[hq]at hc;have hno:∀i (h:i<s.size),(s[i].toNat:Int)≠34:=λi h he=>by
   simp_all
  rw[if_neg (by simp)];have b:ff (λi=>if(if h:i<s.size then decide (32<=(s[i].toNat:Int))&&decide ((s[i].toNat:Int)<=126)else true)=true then none else some false) s.size=ff (λi=>if YB s i=true then none else some false) s.size:=by
   simp_all[YB]
  rw[b]
  cases h2:ff (λi=>if YB s i=true then none else some false) s.size with
  |none=>rfl
  |some v=>
   obtain⟨j,j1,a,-⟩:=Oa.1 h2;split at a
   .grind
   .injection a with a;subst a;rfl
 .obtain⟨i,hi,he⟩:=hc.1 hq;rw[if_pos rfl]
  cases h2:ff (λi=>if YB s i=true then none else some false) s.size with
  |some v=>rfl
  |none=>
   simp_all[YB,Hb]
noncomputable def lC(e:List GNode) (s:GSignature) (t:GType):Int:=
 if¬(Uj e s).2.2=0 then(Uj e s).2.2 else if¬((Uj e s).1.Kind=t.Kind/\(Uj e s).1.Enum=t.Enum)then 8 else 0
theorem Zw{e:List GNode}(hN:∀n∈e,Xa n) (s:GSignature) (t:GType):Nj e s t=some (lC e s t):=by
 grind[Nj,lC,Pz]
theorem iv{e:List GNode}(hN:∀n∈e,Xa n) (s:GSignature) (t:GType):Ii e s t=some (lC e s t):=by
 grind[Ii,lC,vy]
def mD(x:GScope) (k:Nat) (r:GRule):Nat:=((x.Rules.take k).filter λy=>decide (y.Def=r.Def)).length
theorem MQ(x:GScope) (k:Nat) (r:GRule):mD x k r<=k:=by
 grind[mD]
theorem LJ{x:GScope}{k:Nat}{r:GRule}(hk:k<x.Rules.length):mD x (k+1) r=if x.Rules[k].Def=r.Def then mD x k r+1 else mD x k r:=by
 unfold mD;rw[tab,Maa hk,aac,List.length_append]
 grind
def VG(x:GScope) (k:Nat) (r:GRule):Bool:=
 if r.Parent = -1 then false else if r.Parent<0 then true else if(k:Int)<=r.Parent then true else match x.Rules[r.Parent.toNat]? with|some q=>q.Def !=r.Def|none=>true
noncomputable def Dy(x:GScope) (s:GSignature) (k:Nat) (r:GRule):Int:=
 if wk r.Name=false then 2
 else if((x.Rules.take k).any λy=>decide (y.Name=r.Name))=true then 7
 else if r.Def<0\/(x.Defs.length:Int)<=r.Def then 6
 else if VG x k r=true then 9
 else if r.Priority<0\/9<r.Priority\/r.Valid.From<0\/r.Valid.To<=r.Valid.From\/109573<r.Valid.To then 3
 else if 8<=mD x k r then 4
 else if CP r.Source=false then 2
 else if 0<r.Guard.length/\lC r.Guard s ⟨1,0⟩≠0 then lC r.Guard s ⟨1,0⟩
 else lC r.Value s (match x.Defs[r.Def.toNat]? with|some d=>d.Type_|none=>⟨0,0⟩)
structure RuleOk (r:GRule):Prop where
 nm:r.Name.size<=1048576
 src:r.Source.size<=1048576
 g:∀n∈r.Guard,Xa n
 v:∀n∈r.Value,Xa n
theorem L5{x:GScope}{k:Nat}{r:GRule}(hk:k<x.Rules.length) {o:Option Bool}(ho:o=(if¬r.Parent = -1 then if¬r.Parent<0 then if¬(k:Int)<=r.Parent then(idx x.Rules r.Parent).bind λy=>some (y.Def !=r.Def)else some true else some true else some false)):o=some (VG x k r):=by
 rw[ho];unfold VG;by_cases a:r.Parent = -1
 .grind
 by_cases h2:r.Parent<0
 .simp_all
 by_cases b:(k:Int)<=r.Parent
 .simp_all
 .rw[if_pos a,if_pos h2,if_pos b,if_neg a,if_neg h2,if_neg b,Ng (by omega) (by omega),Kaa,Maa]
theorem yE{x:GScope}(hx:ScOk x) {k:Nat}(hk:k<x.Rules.length) (hr:RuleOk x.Rules[k]) (s:GSignature):vm x (k:Int) s=some (Dy x s k x.Rules[k]):=by
 have hrl:=hx.rules;have hdl:=hx.defs;unfold vm Dy;rw[Ca hk,Kaa,nw (by omega),Kaa];generalize hrr:x.Rules[k]=r at hr⊢;have hl:da (Bk r (x.Rules.take k)) (0,0)=some (.inl ((mD x k r:Nat):Int)):=by
  refine Rc (λi=>(((mD x i r:Nat):Int),(i:Int))) k _ (λi hi=>?_) ?_ rfl
  .have:=MQ x i r;unfold Bk;simp only;rw[if_pos (by grind),Ca (by grind),Kaa,ya (by omega),ya (by omega),fad,LJ (by omega)]
   grind
  grind[Bk]
 rw[hl,Kaa];simp only;rw[Rp (by have:=hr.nm;omega),Kaa,Kaa,dS (by grind),Kaa];cases wk r.Name
 .rfl
 simp only[jab,if_false];cases (x.Rules.take k).any λy=>decide (y.Name=r.Name)
 .simp only[Saa,if_false];by_cases hd:r.Def<0\/(x.Defs.length:Int)<=r.Def
  .grind
  .rw[if_neg hd,if_pos (by omega),Kaa,if_neg (by simp_all)];rw[L5 hk rfl,Kaa];cases VG x k r
   .simp only[Saa,if_false];by_cases hp:r.Priority<0\/9<r.Priority
    .grind
    .rw[if_pos (show¬r.Priority<0 by omega),Kaa,if_neg (by simp_all)];by_cases hv:r.Valid.From<0\/r.Valid.To<=r.Valid.From\/109573<r.Valid.To
     .grind
     .rw[if_pos (show¬r.Valid.From<0 by omega),if_pos (show¬r.Valid.To<=r.Valid.From by omega),Kaa,if_neg (by simp_all),if_neg (show¬(r.Priority<0\/9<r.Priority\/r.Valid.From<0\/r.Valid.To<=r.Valid.From\/109573<r.Valid.To) by omega)];by_cases b:8<=mD x k r
      .grind
      rw[if_neg (by omega),if_neg b,oB hr.src,Kaa];cases CP r.Source
      .rfl
      simp only[jab,if_false];have hi:idx x.Defs r.Def=some (x.Defs[r.Def.toNat]'(by omega)):=Ng (by omega) (by omega);have a:x.Defs[r.Def.toNat]?=some (x.Defs[r.Def.toNat]'(by omega)):=Maa _;simp only[hi,a,Zw hr.g,Zw hr.v,Kaa]
      grind
   .rfl
 .rfl
theorem PS{v:GDateRange}:kT v=false\/v.From=v.To↔v.From<0\/v.To<=v.From\/109573<v.To:=by
 grind[kT]
theorem pL{l:GLaw}(h:LawOk l) {i:Nat}(hi:i<l.Scopes.length) {r:GRule}(hr:r∈l.Scopes[i].Rules):RuleOk r:=by
 obtain⟨-,-,-,-,-,g⟩:=h.s _ (Qaa hi);obtain⟨a,b,c,d⟩:=g r hr;exact⟨a,b,c,d⟩
theorem GB{l:GLaw}(h:LawOk l) {i:Nat}(hi:i<l.Scopes.length) {k:Nat}(hk:k<l.Scopes[i].Rules.length):cm l (i:Int) (k:Int)=some (Dy l.Scopes[i] (Jo l l.Scopes[i]) k l.Scopes[i].Rules[k]):=by
 have hr:=pL h hi (Qaa hk);have hx:=(h.s _ (Qaa hi)).2.1;have d:=fv h hi;unfold cm;rw[Ca hi,Kaa];generalize l.Scopes[i]=x at hk hr hx d⊢;have hrl:=hx.rules;have hdl:=hx.defs;rw[Ca hk,Kaa];unfold Dy;generalize hrr:x.Rules[k]=r at hr⊢;rw[Bn (by have:=hr.nm;omega),Kaa];cases wk r.Name
 .rfl
 simp only[jab,if_false];have hl:da (Zh (k:Int) x r) (0,0)=some (jc ((mD x k r:Nat):Int) (ff (λi=>if((x.Rules.take k)[i]?.any λy=>decide (y.Name=r.Name))=true then some 7 else none) (x.Rules.take k).length)):=by
  refine bc (λi=>(((mD x i r:Nat):Int),(i:Int))) _ _ _ (λj m _=>?_) (λ_=>?_) rfl
  .have hjk:j<k:=by grind
   have:=MQ x j r;unfold Zh;simp only;rw[if_pos (by omega),Ca (by omega),Kaa,ya (by omega),ya (by omega),Maa m,LJ (by omega)];simp only[Yab,fad,decide_eq_true_eq];by_cases hn:x.Rules[j].Name=r.Name
   .rw[if_pos hn,if_pos hn];rfl
   .rw[if_neg hn,if_neg hn];by_cases hd:x.Rules[j].Def=r.Def
    .rw[if_pos hd,if_pos hd];rfl
    .rw[if_neg hd,if_neg hd];rfl
  grind[Zh]
 rw[hl,Kaa,←pn (q:=λ(y:GRule)=>decide (y.Name=r.Name)) (g:=λ_=>(7:Int))]
 cases h2:ff (λi=>if((x.Rules.take k)[i]?.any λy=>decide (y.Name=r.Name))=true then some (7:Int)else none) (x.Rules.take k).length with
 |some v=>
  obtain⟨j,j1,a,-⟩:=Oa.1 h2;split at a
  .injection a with a;subst a;rfl
  simp_all
 |none=>
  simp only[jc,Option.isSome_none,Saa,if_false];by_cases hd:r.Def<0\/(x.Defs.length:Int)<=r.Def
  .grind
  .rw[if_neg hd,if_pos (by omega),Kaa,if_neg (by simp_all)];rw[L5 hk rfl,Kaa];cases VG x k r
   .simp only[Saa,if_false,Lr,Kaa];have hb:=PS (v:=r.Valid);by_cases hp:r.Priority<0\/9<r.Priority
    .grind
    .rw[if_pos (show¬r.Priority<0 by omega),if_pos (show¬9<r.Priority by omega)];by_cases hv:r.Valid.From<0\/r.Valid.To<=r.Valid.From\/109573<r.Valid.To
     .grind
     .have e:kT r.Valid=true:=by
       simp_all
      have h2:¬r.Valid.From=r.Valid.To:=λhq=>hv (hb.1 (.inr hq));rw[if_pos e,Kaa,if_neg (by simp_all),if_neg (show¬(r.Priority<0\/9<r.Priority\/r.Valid.From<0\/r.Valid.To<=r.Valid.From\/109573<r.Valid.To) by omega)];by_cases f:8<=mD x k r
      .grind
      rw[if_neg (by omega),if_neg f,FB hr.src,Kaa];cases CP r.Source
      .rfl
      simp only[jab,if_false];have c:idx x.Defs r.Def=some (x.Defs[r.Def.toNat]'(by omega)):=Ng (by omega) (by omega);have b:x.Defs[r.Def.toNat]?=some (x.Defs[r.Def.toNat]'(by omega)):=Maa _;simp only[d,c,b,iv hr.g,iv hr.v,Kaa]
      grind
   .rfl
noncomputable def gS(l:GLaw) (x:GScope) (k:Nat):Option (Int×Int):=
 match x.Inputs[k]? with
 |some f=>if Tt l f (x.Inputs.take k) []=0 then none else some (Tt l f (x.Inputs.take k) [],100+(k:Int))
 |none=>none
noncomputable def PF(l:GLaw) (x:GScope) (k:Nat):Option (Int×Int):=
 match x.Defs[k]? with
 |some f=>if Tt l f x.Inputs (x.Defs.take k)=0 then none else some (Tt l f x.Inputs (x.Defs.take k),200+(k:Int))
 |none=>none
noncomputable def CH(l:GLaw) (x:GScope) (k:Nat):Option (Int×Int):=
 match x.Rules[k]? with
 |some r=>if Dy x (Jo l x) k r=0 then none else some (Dy x (Jo l x) k r,300+(k:Int))
 |none=>none
open Classical in
noncomputable def pE(x:GScope) (k:Nat):Option (Int×Int):=if Way x (k:Int) (k:Int)then some (9,200+(k:Int))else none
def Mw(l:GLaw) (i:Nat) (x:GScope):Bool:=
 if x.MemberScope = -1 then false else if x.MemberScope<0 then true else if(i:Int)<=x.MemberScope then true else match l.Scopes[x.MemberScope.toNat]? with|some q=>q.MemberScope !=-1|none=>true
noncomputable def dh(l:GLaw) (i:Nat) (x:GScope):Int×Int:=
 if wk x.Name=false then(2,0)
 else if((l.Enums.any λy=>decide (y.Name=x.Name)) || ((l.Tables.any λy=>decide (y.Name=x.Name)) || (l.Scopes.take i).any λy=>decide (y.Name=x.Name)))=true then(7,0)
 else if Mw l i x=true then(6,0)
 else if 12<x.Inputs.length then(4,112)
 else if 12<x.Defs.length then(4,212)
 else match ff (gS l x) x.Inputs.length with
  |some v=>v
  |none=>match ff (PF l x) x.Defs.length with
   |some v=>v
   |none=>match ff (CH l x) x.Rules.length with
    |some v=>v
    |none=>(ff (pE x) x.Defs.length).getD (0,0)
theorem EV{l:GLaw}{i:Nat}{x:GScope}(hi:i<l.Scopes.length) {o:Option Bool}(ho:o=(if¬x.MemberScope = -1 then if¬x.MemberScope<0 then if¬(i:Int)<=x.MemberScope then(idx l.Scopes x.MemberScope).bind λy=>some (y.MemberScope !=-1)else some true else some true else some false)):o=some (Mw l i x):=by
 rw[ho];unfold Mw;by_cases a:x.MemberScope = -1
 .grind
 by_cases h2:x.MemberScope<0
 .simp_all
 by_cases b:(i:Int)<=x.MemberScope
 .simp_all
 .rw[if_pos a,if_pos h2,if_pos b,if_neg a,if_neg h2,if_neg b,Ng (by omega) (by omega),Kaa,Maa]
theorem pS{l:GLaw}{i:Nat}{x:GScope}(hi:i<l.Scopes.length) {o:Option Bool}(ho:o=(if¬x.MemberScope = -1 then if¬x.MemberScope<0 then if¬(i:Int)<=x.MemberScope then(idx (l.Scopes.take i) x.MemberScope).bind λy=>some (y.MemberScope !=-1)else some true else some true else some false)):o=some (Mw l i x):=by
 rw[ho];unfold Mw;by_cases a:x.MemberScope = -1
 .grind
 by_cases h2:x.MemberScope<0
 .simp_all
 by_cases b:(i:Int)<=x.MemberScope
 .simp_all
 .rw[if_pos a,if_pos h2,if_pos b,if_neg a,if_neg h2,if_neg b,Ng (by omega) (by grind),Kaa,Maa (by omega),fad]
theorem PC{l:GLaw}(h:LawOk l) {i:Nat}(hi:i<l.Scopes.length):Dk l (i:Int)=some (dh l i l.Scopes[i]):=by
 obtain⟨g1,g2,g3,g4,g5,g⟩:=h.s _ (Qaa hi);have c:=h.ne;have d:=h.nt;have hns:=h.ns;have f:=Am h hi;have b:∀r∈l.Scopes[i].Rules,RuleOk r:=λr hr=>pL h hi hr;unfold Dk dh;rw[Ca hi,Kaa,nw (by omega),Kaa];generalize l.Scopes[i]=x at g1 g2 g3 g4 g5 g f b⊢;have gd:=g2.defs;have gr:=g2.rules;rw[KC c,Kaa,xG d,TO (by grind),Rp (by omega)];have e:(if(l.Enums.any λy=>decide (y.Name=x.Name))=false then(some (l.Tables.any λy=>decide (y.Name=x.Name))).bind λw=>if w=false then(some ((l.Scopes.take i).any λy=>decide (y.Name=x.Name))).bind λz=>some z else some true else some true) =
  some ((l.Enums.any λy=>decide (y.Name=x.Name)) || ((l.Tables.any λy=>decide (y.Name=x.Name)) || (l.Scopes.take i).any λy=>decide (y.Name=x.Name))):=by
  grind
 rw[e,Kaa,Kaa];cases wk x.Name
 .rfl
 simp only[jab,if_false];cases (l.Enums.any λy=>decide (y.Name=x.Name)) || ((l.Tables.any λy=>decide (y.Name=x.Name)) || (l.Scopes.take i).any λy=>decide (y.Name=x.Name))
 .simp only[Saa,if_false];rw[pS (l:=l) (x:=x) hi rfl,Kaa];cases Mw l i x
  .simp only[Saa,if_false];by_cases m:12<x.Inputs.length
   .grind
   rw[if_neg (by omega),if_neg m];by_cases j:12<x.Defs.length
   .grind
   rw[if_neg (by omega),if_neg j];have o:da (lj l x) 0=some (jc () (ff (gS l x) x.Inputs.length)):=
    bc (λk=>(k:Int)) _ _ _ (λk hk _=>by
     unfold lj gS;rw[if_pos (by omega),Ca hk,Kaa,nw (by omega),Kaa,Zv (g4 _ (Qaa hk)) (by grind) (by simp),Kaa,Maa hk,wid (n:=100+(k:Int)) (by omega) (by omega),ya (by omega)];dsimp only;by_cases a:Tt l x.Inputs[k] (x.Inputs.take k) []=0
     .rw[if_neg (by omega),if_pos a];rfl
     .rw[if_pos a,if_neg a];rfl) (λ_=>by grind[lj])
   have p:da (kj l x) 0=some (jc () (ff (PF l x) x.Defs.length)):=
    bc (λk=>(k:Int)) _ _ _ (λk hk _=>by
     unfold kj PF;rw[if_pos (by omega),Ca hk,Kaa,nw (by omega),Kaa,Zv (g5 _ (Qaa hk)) g3 (by grind),Kaa,Maa hk,wid (n:=200+(k:Int)) (by omega) (by omega),ya (by omega)];dsimp only;by_cases a:Tt l x.Defs[k] x.Inputs (x.Defs.take k)=0
     .rw[if_neg (by omega),if_pos a];rfl
     .rw[if_pos a,if_neg a];rfl) (λ_=>by grind[kj])
   have t:da (jj x (Jo l x)) 0=some (jc () (ff (CH l x) x.Rules.length)):=
    bc (λk=>(k:Int)) _ _ _ (λk hk _=>by
     unfold jj CH;rw[if_pos (by omega),yE g2 hk (b _ (Qaa hk)),Kaa,Maa hk,wid (n:=300+(k:Int)) (by omega) (by omega),ya (by omega)];dsimp only;by_cases a:Dy x (Jo l x) k x.Rules[k]=0
     .rw[if_neg (by omega),if_pos a];rfl
     .rw[if_pos a,if_neg a];rfl) (λ_=>by grind[jj])
   have u:da (ij x) 0=some (jc () (ff (pE x) x.Defs.length)):=
    bc (λk=>(k:Int)) _ _ _ (λk hk _=>by
     obtain⟨q,q1,q2,q3⟩:=kq g2 (k:Int);unfold ij pE;rw[if_pos (by omega),q1,Kaa,kK (by omega),Kaa,wid (n:=200+(k:Int)) (by omega) (by omega),ya (by omega)];by_cases a:Way x (k:Int) (k:Int)
     .rw[if_pos (by simp_all),if_pos a];rfl
     .rw[if_neg (by simp_all),if_neg a];rfl) (λ_=>by grind[ij])
   rw[o,Kaa]
   cases ff (gS l x) x.Inputs.length with
   |some v=>rfl
   |none=>
    simp only[jc];rw[p,Kaa]
    cases ff (PF l x) x.Defs.length with
    |some v=>rfl
    |none=>
     simp only[jc];rw[f,Kaa,t,Kaa]
     cases ff (CH l x) x.Rules.length with
     |some v=>rfl
     |none=>
      simp only[jc];rw[u,Kaa];cases ff (pE x) x.Defs.length<;>rfl
  .rfl
 .rfl
theorem zK{α β:Type}{f:Nat->Option α}(g:α->β) {n:Nat}:ff (λk=>(f k).map g) n=(ff f n).map g:=by
 cases h1:ff f n with
 |none=>grind[Hb]
 |some v=>grind[Oa]
def FL(i:Nat) (v:Int×Int):GLawError:=⟨v.1,3,(i:Int),v.2⟩
theorem UO{l:GLaw}{x:GScope}{k:Nat}{v:Int×Int}(h:gS l x k=some v):v.1≠0:=by
 grind[gS]
theorem lK{l:GLaw}{x:GScope}{k:Nat}{v:Int×Int}(h:PF l x k=some v):v.1≠0:=by
 grind[PF]
theorem oL{l:GLaw}{x:GScope}{k:Nat}{v:Int×Int}(h:CH l x k=some v):v.1≠0:=by
 grind[CH]
theorem DY{x:GScope}{k:Nat}{v:Int×Int}(h:pE x k=some v):v.1≠0:=by
 grind[pE]
theorem Qz{f:Nat->Option (Int×Int)}(hf:∀{k v},f k=some v->v.1≠0) {n:Nat}{v:Int×Int}(h:ff f n=some v):v.1≠0:=by
 grind[Oa]
theorem vA{l:GLaw}(h:LawOk l) {i:Nat}(hi:i<l.Scopes.length):Kk l (i:Int)=some (match ff (gS l l.Scopes[i]) l.Scopes[i].Inputs.length with
 |some v=>FL i v
 |none=>match ff (PF l l.Scopes[i]) l.Scopes[i].Defs.length with
  |some v=>FL i v
  |none=>⟨0,0,0,0⟩):=by
 obtain⟨g1,g2,g3,g4,g5,a⟩:=h.s _ (Qaa hi);unfold Kk;rw[Ca hi,Kaa];generalize l.Scopes[i]=x at g1 g2 g3 g4 g5 a⊢;have gd:=g2.defs;have l1:da (Rg l (i:Int) x) 0=some (jc () ((ff (gS l x) x.Inputs.length).map (FL i))):=by
  rw[←zK];exact bc (λk=>(k:Int)) _ _ _ (λk hk _=>by
   have hf:=g4 _ (Qaa hk);unfold Rg gS Tt;rw[if_pos (by omega),Ca hk,Kaa,Bn (by omega),Kaa,vr g3 (by omega),Kaa,Qa,Kaa,Maa hk,wid (n:=100+(k:Int)) (by omega) (by omega),ya (by omega)];dsimp only;generalize x.Inputs[k]=f;cases wk f.Name
   .rfl
   cases (x.Inputs.take k).any λy=>decide (y.Name=f.Name)
   .cases ja f.Type_ l.Enums<;>rfl
   .rfl) (λ_=>by grind[Rg])
 have l2:da (Qg l (i:Int) x) 0=some (jc () ((ff (PF l x) x.Defs.length).map (FL i))):=by
  rw[←zK];exact bc (λk=>(k:Int)) _ _ _ (λk hk _=>by
   have hf:=g5 _ (Qaa hk);unfold Qg PF Tt;rw[if_pos (by omega),Ca hk,Kaa,Bn (by omega),Kaa,vr g3 (dab _),Kaa,vr gd (by omega),Qa,Kaa,Maa hk,wid (n:=200+(k:Int)) (by omega) (by omega),ya (by omega),Eac];dsimp only;generalize x.Defs[k]=f;cases wk f.Name
   .rfl
   cases x.Inputs.any λy=>decide (y.Name=f.Name)
   .cases (x.Defs.take k).any λy=>decide (y.Name=f.Name)
    .cases ja f.Type_ l.Enums<;>rfl
    .rfl
   .rfl) (λ_=>by grind[Qg])
 grind[jc]
theorem wA{l:GLaw}(h:LawOk l) {i:Nat}(hi:i<l.Scopes.length):Nk l (i:Int)=some (if(dh l i l.Scopes[i]).1=0 then⟨0,0,0,0⟩else FL i (dh l i l.Scopes[i])):=by
 obtain⟨g1,g2,g3,g4,g5,A⟩:=h.s _ (Qaa hi);have hne:=h.ne;have hnt:=h.nt;have hns:=h.ns;have t:=vA h hi;have w:=λ{k:Nat} (hk:k<l.Scopes[i].Rules.length)=>GB h hi hk;unfold Nk dh;rw[Ca hi,Kaa];generalize l.Scopes[i]=x at g1 g2 g3 g4 g5 A t w⊢;have gd:=g2.defs;have gr:=g2.rules;rw[Bn (by omega),Kaa,taken3 h (by omega),Kaa];cases wk x.Name
 .rfl
 simp only[jab,if_false];cases (l.Enums.any λy=>decide (y.Name=x.Name)) || ((l.Tables.any λy=>decide (y.Name=x.Name)) || (l.Scopes.take i).any λy=>decide (y.Name=x.Name))
 .simp only[Saa,if_false];rw[EV (l:=l) (x:=x) hi rfl,Kaa];cases Mw l i x
  .simp only[Saa,if_false];by_cases u:12<x.Inputs.length
   .rw[if_pos (by omega),if_pos u];rfl
   rw[if_neg (by omega),if_neg u];by_cases r:12<x.Defs.length
   .rw[if_pos (by omega),if_pos r];rfl
   rw[if_neg (by omega),if_neg r,t,Kaa];have C:da (jg l (i:Int) x) 0=some (jc () ((ff (CH l x) x.Rules.length).map (FL i))):=by
    rw[←zK];exact bc (λk=>(k:Int)) _ _ _ (λk hk _=>by
     unfold jg CH;rw[if_pos (by omega),w hk,Kaa,Maa hk,wid (n:=300+(k:Int)) (by omega) (by omega),ya (by omega)];dsimp only;by_cases p:Dy x (Jo l x) k x.Rules[k]=0
     .rw[if_neg (by omega),if_pos p];rfl
     .rw[if_pos p,if_neg p];rfl) (λ_=>by grind[jg])
   have D:da (ig (i:Int) x) 0=some (jc () ((ff (pE x) x.Defs.length).map (FL i))):=by
    rw[←zK];exact bc (λk=>(k:Int)) _ _ _ (λk hk _=>by
     have F:=λy=>oF (s:=x) (d:=(k:Int)) (y:=y);have q2:=(kC x (k:Int) x.Defs.length).len;have E:da (Sg (i:Int) (k:Int) (jC x (k:Int) x.Defs.length)) 0=some (jc () (ff (λj=>if((jC x (k:Int) x.Defs.length)[j]?.any λy=>decide (y=(k:Int)))=true then some (Ex.ret (FL i (9,200+(k:Int))))else none) (jC x (k:Int) x.Defs.length).length)):=
      bc (λj=>(j:Int)) _ _ _ (λj z _=>by
       unfold Sg;rw[if_pos (by omega),Ca z,Kaa,Maa z,wid (n:=200+(k:Int)) (by omega) (by omega),ya (by omega)];simp only[Yab,decide_eq_true_eq];by_cases he:(jC x (k:Int) x.Defs.length)[j]=(k:Int)
       .rw[if_pos he,if_pos he];rfl
       .rw[if_neg he,if_neg he];rfl) (λ_=>by grind[Sg])
     unfold ig pE;rw[if_pos (by omega),tA g2,Kaa,E,Kaa,ya (by omega)];have a:=pn (l:=jC x (k:Int) x.Defs.length) (q:=λy=>decide (y=(k:Int))) (g:=λ_=>(Ex.ret (FL i (9,200+(k:Int))):Ex Int Unit GLawError))
     cases h2:ff (λj=>if((jC x (k:Int) x.Defs.length)[j]?.any λy=>decide (y=(k:Int)))=true then some (Ex.ret (FL i (9,200+(k:Int))):Ex Int Unit GLawError)else none) (jC x (k:Int) x.Defs.length).length with
     |none=>
      rw[h2]at a;rw[if_neg]
      .rfl
      grind
     |some v=>
      rw[h2]at a;obtain⟨y,B,hyk⟩:=Cad.1 a.symm;have:y=(k:Int):=by simp_all
      subst this;rw[if_pos ((F _).1 B)];obtain⟨j,-,b,-⟩:=Oa.1 h2;split at b
      .injection b with b;subst b;rfl
      simp_all) (λ_=>by grind[ig])
   cases c:ff (gS l x) x.Inputs.length with
   |some v=>
    have:=Qz (f:=gS l x) UO c
    simp_all[FL]
   |none=>
    dsimp only
    cases e:ff (PF l x) x.Defs.length with
    |some v=>
     have:=Qz (f:=PF l x) lK e
     simp_all[FL]
    |none=>
     dsimp only;rw[if_neg (by simp),C]
     cases m:ff (CH l x) x.Rules.length with
     |some v=>
      have:=Qz (f:=CH l x) oL m
      simp_all[jc]
     |none=>
      simp only[Option.map_none,jc,Kaa];rw[D]
      cases o:ff (pE x) x.Defs.length with
      |some v=>
       have:=Qz (f:=pE x) DY o
       simp_all[jc]
      |none=>rfl
  .rfl
 .rfl
noncomputable def Nl(l:GLaw):GLawError:=
 if 8<l.Enums.length then⟨4,1,8,0⟩
 else match ff (λi=>match l.Enums[i]? with|some x=>if(Tf l i x).1=0 then none else some (⟨(Tf l i x).1,1,(i:Int),(Tf l i x).2⟩:GLawError)|none=>none) l.Enums.length with
  |some v=>v
  |none=>
   if 8<l.Tables.length then⟨4,2,8,0⟩
   else match ff (λi=>match l.Tables[i]? with|some x=>if(Ko l i x).1=0 then none else some (⟨(Ko l i x).1,2,(i:Int),(Ko l i x).2⟩:GLawError)|none=>none) l.Tables.length with
    |some v=>v
    |none=>
     if 4<l.Scopes.length then⟨4,3,4,0⟩
     else(ff (λi=>match l.Scopes[i]? with|some x=>if(dh l i x).1=0 then none else some (FL i (dh l i x))|none=>none) l.Scopes.length).getD ⟨0,0,0,0⟩
theorem dF{f:Nat->Option GLawError}(hf:∀{k v},f k=some v->v.Code≠0) {n:Nat}{v:GLawError}(h:ff f n=some v):v.Code≠0:=by
 grind[Oa]
theorem NU{l:GLaw}{k:Nat}{v:GLawError}(h:(match l.Enums[k]? with|some x=>if(Tf l k x).1=0 then none else some (⟨(Tf l k x).1,1,(k:Int),(Tf l k x).2⟩:GLawError)|none=>none)=some v):v.Code≠0:=by
 grind
theorem tX{l:GLaw}{k:Nat}{v:GLawError}(h:(match l.Tables[k]? with|some x=>if(Ko l k x).1=0 then none else some (⟨(Ko l k x).1,2,(k:Int),(Ko l k x).2⟩:GLawError)|none=>none)=some v):v.Code≠0:=by
 grind
theorem yq{l:GLaw}(h:LawOk l):Cl l=some (Nl l):=by
 have hne:=h.ne;have hnt:=h.nt;have hns:=h.ns;have le:da (fj l) 0=some (jc () (ff (λi=>match l.Enums[i]? with|some x=>if(Tf l i x).1=0 then none else some (⟨(Tf l i x).1,1,(i:Int),(Tf l i x).2⟩:GLawError)|none=>none) l.Enums.length)):=
  bc (λk=>(k:Int)) _ _ _ (λk hk _=>by
   unfold fj;rw[if_pos (by omega),Ca hk,Kaa,xE h hk,Kaa,Maa hk,ya (by omega)];dsimp only;by_cases a:(Tf l k l.Enums[k]).1=0
   .rw[if_neg (by omega),if_pos a];rfl
   .rw[if_pos a,if_neg a];rfl) (λ_=>by grind[fj])
 have ls:da (Kh l) 0=some (jc () (ff (λi=>match l.Scopes[i]? with|some x=>if(dh l i x).1=0 then none else some (FL i (dh l i x))|none=>none) l.Scopes.length)):=
  bc (λk=>(k:Int)) _ _ _ (λk hk _=>by
   unfold Kh;rw[if_pos (by omega),PC h hk,Kaa,Maa hk,ya (by omega)];dsimp only;by_cases a:(dh l k l.Scopes[k]).1=0
   .rw[if_neg (by omega),if_pos a];rfl
   .rw[if_pos a,if_neg a];rfl) (λ_=>by grind[Kh])
 unfold Cl Aq np lp Nl;by_cases b:8<l.Enums.length
 .grind
 rw[if_neg (by omega),if_neg b,le]
 cases c:ff (λi=>match l.Enums[i]? with|some x=>if(Tf l i x).1=0 then none else some (⟨(Tf l i x).1,1,(i:Int),(Tf l i x).2⟩:GLawError)|none=>none) l.Enums.length with
 |some v=>
  have:=dF (f:=λi=>match l.Enums[i]? with|some x=>if(Tf l i x).1=0 then none else some (⟨(Tf l i x).1,1,(i:Int),(Tf l i x).2⟩:GLawError)|none=>none) NU c
  simp_all[jc]
 |none=>
  simp only[jc,Kaa];rw[if_neg (by simp)];by_cases b:8<l.Tables.length
  .grind
  rw[if_neg (by omega),if_neg b,kS h]
  cases d:ff (λi=>match l.Tables[i]? with|some x=>if(Ko l i x).1=0 then none else some (⟨(Ko l i x).1,2,(i:Int),(Ko l i x).2⟩:GLawError)|none=>none) l.Tables.length with
  |some v=>
   have:=dF (f:=λi=>match l.Tables[i]? with|some x=>if(Ko l i x).1=0 then none else some (⟨(Ko l i x).1,2,(i:Int),(Ko l i x).2⟩:GLawError)|none=>none) tX d
   simp_all[jc]
  |none=>
   simp only[jc,Kaa];rw[if_neg (by simp)];by_cases b:4<l.Scopes.length
   .grind
   rw[if_neg (by omega),if_neg b,ls];cases ff (λi=>match l.Scopes[i]? with|some x=>if(dh l i x).1=0 then none else some (FL i (dh l i x))|none=>none) l.Scopes.length<;>rfl
theorem iD{l:GLaw}(h:LawOk l):Gn l=some (Nl l):=by
 have hne:=h.ne;have hnt:=h.nt;have hns:=h.ns;have le:da (zj l) 0=some (jc () (ff (λi=>match l.Enums[i]? with|some x=>if(Tf l i x).1=0 then none else some (⟨(Tf l i x).1,1,(i:Int),(Tf l i x).2⟩:GLawError)|none=>none) l.Enums.length)):=
  bc (λk=>(k:Int)) _ _ _ (λk hk _=>by
   unfold zj;rw[if_pos (by omega),EB h hk,Kaa,Maa hk,ya (by omega)];dsimp only;by_cases a:(Tf l k l.Enums[k]).1=0
   .rw[if_pos a,if_neg (by simp),if_pos a];rfl
   .rw[if_neg a,if_pos (by omega),if_neg a];rfl) (λ_=>by grind[zj])
 have lt:da (xj l) 0=some (jc () (ff (λi=>match l.Tables[i]? with|some x=>if(Ko l i x).1=0 then none else some (⟨(Ko l i x).1,2,(i:Int),(Ko l i x).2⟩:GLawError)|none=>none) l.Tables.length)):=
  bc (λk=>(k:Int)) _ _ _ (λk hk _=>by
   unfold xj;rw[if_pos (by omega),xA h hk,Kaa,Maa hk,ya (by omega)];dsimp only;by_cases a:(Ko l k l.Tables[k]).1=0
   .rw[if_pos a,if_neg (by simp),if_pos a];rfl
   .rw[if_neg a,if_pos (by omega),if_neg a];rfl) (λ_=>by grind[xj])
 have ls:da (wj l) 0=some (jc () (ff (λi=>match l.Scopes[i]? with|some x=>if(dh l i x).1=0 then none else some (FL i (dh l i x))|none=>none) l.Scopes.length)):=
  bc (λk=>(k:Int)) _ _ _ (λk hk _=>by
   unfold wj;rw[if_pos (by omega),wA h hk,Kaa,Maa hk,ya (by omega)];dsimp only;by_cases a:(dh l k l.Scopes[k]).1=0
   .rw[if_pos a,if_neg (by simp),if_pos a];rfl
   .rw[if_neg a,if_pos (by grind[FL]),if_neg a];rfl) (λ_=>by grind[wj])
 unfold Gn Nl;by_cases b:8<l.Enums.length
 .grind
 rw[if_neg (by omega),if_neg b,le]
 cases ff (λi=>match l.Enums[i]? with|some x=>if(Tf l i x).1=0 then none else some (⟨(Tf l i x).1,1,(i:Int),(Tf l i x).2⟩:GLawError)|none=>none) l.Enums.length with
 |some v=>rfl
 |none=>
  simp only[jc,Kaa];by_cases b:8<l.Tables.length
  .grind
  rw[if_neg (by omega),if_neg b,lt]
  cases ff (λi=>match l.Tables[i]? with|some x=>if(Ko l i x).1=0 then none else some (⟨(Ko l i x).1,2,(i:Int),(Ko l i x).2⟩:GLawError)|none=>none) l.Tables.length with
  |some v=>rfl
  |none=>
   simp only[jc,Kaa];by_cases b:4<l.Scopes.length
   .grind
   rw[if_neg (by omega),if_neg b,ls];cases ff (λi=>match l.Scopes[i]? with|some x=>if(dh l i x).1=0 then none else some (FL i (dh l i x))|none=>none) l.Scopes.length<;>rfl
structure Valid (l:GLaw):Prop where
 e:∀i (h:i<l.Enums.length),(Tf l i l.Enums[i]).1=0
 t:∀i (h:i<l.Tables.length),(Ko l i l.Tables[i]).1=0
 s:∀i (h:i<l.Scopes.length),(dh l i l.Scopes[i]).1=0
 ne:l.Enums.length<=8
 nt:l.Tables.length<=8
 ns:l.Scopes.length<=4
theorem Au{l:GLaw}(h:(Nl l).Code=0):Valid l:=by
 unfold Nl at h;split at h
 .grind
 rename_i h1;split at h
 .rename_i v hv;exact(dF (f:=λi=>match l.Enums[i]? with|some x=>if(Tf l i x).1=0 then none else some (⟨(Tf l i x).1,1,(i:Int),(Tf l i x).2⟩:GLawError)|none=>none) NU hv h).elim
 rename_i he;split at h
 .grind
 rename_i h2;split at h
 .rename_i v hv;exact(dF (f:=λi=>match l.Tables[i]? with|some x=>if(Ko l i x).1=0 then none else some (⟨(Ko l i x).1,2,(i:Int),(Ko l i x).2⟩:GLawError)|none=>none) tX hv h).elim
 rename_i ht;split at h
 .grind
 rename_i h3;refine⟨λi hi=>?_,λi hi=>?_,λi hi=>?_,by omega,by omega,by omega⟩
 .grind[Hb]
 .grind[Hb]
 .generalize hf:ff _ l.Scopes.length=o at h
  cases o with
  |some v=>
   rw[Nac]at h;obtain⟨k,c,a,-⟩:=Oa.1 hf;rw[Maa c]at a;dsimp only at a;split at a
   .grind
   .rename_i b;injection a with a;subst a;exact(b h).elim
  |none=>
   grind[Hb]
theorem Valid.mem{l:GLaw}(h:Valid l):∀x∈l.Enums,x.Members.length<=16:=by
 intro x hx;obtain⟨i,hi,rfl⟩:=bab hx;have:=h.e i hi
 grind[Tf]
theorem Valid.rows{l:GLaw}(h:Valid l):∀x∈l.Tables,x.Rows.length<=64:=by
 intro x hx;obtain⟨i,hi,rfl⟩:=bab hx;have:=h.t i hi
 grind[Ko,Ip]
theorem YE{n:Nat}(hn:n<=1048576) (bad:Nat->Bool) {step:Int->Option (Ex Int Unit Bool)}(a:∀i:Nat,i<n->step (i:Int)=if bad i=true then some (.ret false)else some (.go (ca .i64 ((i:Int)+1)))) (b:step (n:Int)=some (.brk ())) :
 (da step 0=some (.inr false))\/(da step 0=some (.inl ())/\∀i,i<n->bad i=false):=by
 have h:=bc (step:=step) (x0:=0) (λi=>(i:Int)) (λi=>if bad i=true then some false else none) n () (λi hi _=>by
  rw[a i hi,ya (by omega)];cases bad i<;>rfl) (λ_=>b)
 cases hf:ff (λi=>if bad i=true then some false else none) n with
 |none=>
  right;rw[hf]at h;refine⟨h,λi hi=>?_⟩
  grind[Hb]
 |some v=>
  left;rw[hf]at h;obtain⟨k,-,c,-⟩:=Oa.1 hf;split at c
  .injection c with c;subst c;exact h
  grind
structure SmallSc (s:GScope):Prop where
 nm:s.Name.size<=80
 ins:s.Inputs.length<=14
 defs:s.Defs.length<=14
 rules:s.Rules.length<=60
 i:∀f∈s.Inputs,f.Name.size<=80
 d:∀f∈s.Defs,f.Name.size<=80
 r:∀r∈s.Rules,r.Name.size<=80/\r.Source.size<=80/\r.Guard.length<=50/\r.Value.length<=50
theorem XB(s:GScope):∃b,Lg s=some b/\(b=true->SmallSc s):=by
 unfold Lg;by_cases h1:80<(s.Name.size:Int)
 .simp_all
 by_cases h2:14<(s.Inputs.length:Int)
 .simp_all
 by_cases h3:14<(s.Defs.length:Int)
 .simp_all
 by_cases h4:60<(s.Rules.length:Int)
 .simp_all
 have hc:(if¬80<(s.Name.size:Int)then if¬14<(s.Inputs.length:Int)then if¬14<(s.Defs.length:Int)then some (decide (60<(s.Rules.length:Int)))else some true else some true else some true)=some false:=by
  grind
 rw[hc,Kaa,if_neg (by simp)];rcases YE (n:=s.Inputs.length) (by omega) (λi=>match s.Inputs[i]? with|some f=>decide (80<(f.Name.size:Int))|none=>false) (step:=ki s) (λi hi=>by
  grind[ki,Ca]) (by grind[ki])with k|⟨k,k1⟩
 .grind
 rw[k,Kaa];dsimp only;rcases YE (n:=s.Defs.length) (by omega) (λi=>match s.Defs[i]? with|some f=>decide (80<(f.Name.size:Int))|none=>false) (step:=ji s) (λi hi=>by
  grind[ji,Ca]) (by grind[ji])with k|⟨k,k2⟩
 .grind
 rw[k,Kaa];dsimp only;rcases YE (n:=s.Rules.length) (by omega) (λi=>match s.Rules[i]? with|some r=>decide (80<(r.Name.size:Int)\/80<(r.Source.size:Int)\/50<(r.Guard.length:Int)\/50<(r.Value.length:Int))|none=>false) (step:=fi s) (λi hi=>by
  unfold fi;rw[if_pos (by omega),Ca hi,Kaa,Maa hi]
  grind) (by grind[fi])with k|⟨k,k3⟩
 .grind
 rw[k,Kaa];refine⟨true,rfl,λ_=>⟨by omega,by omega,by omega,by omega,?_,?_,?_⟩⟩
 .intro f hf;obtain⟨i,hi,rfl⟩:=bab hf
  grind
 .intro f hf;obtain⟨i,hi,rfl⟩:=bab hf
  grind
 .intro r hr;obtain⟨i,hi,rfl⟩:=bab hr
  grind
def zA(l:GLaw):Nat->Int
 |0=>0
 |k+1=>match l.Tables[k]? with|some t=>ca .i64 (zA l k+(t.Rows.length:Int))|none=>zA l k
structure SmallL (l:GLaw):Prop where
 ne:l.Enums.length<=9
 nt:l.Tables.length<=9
 ns:l.Scopes.length<=5
 e:∀x∈l.Enums,x.Name.size<=80/\x.Members.length<=20/\∀m∈x.Members,m.size<=80
 t:∀x∈l.Tables,x.Name.size<=80
 s:∀x∈l.Scopes,SmallSc x
 rt:∀i,i<l.Tables.length->zA l (i+1)<=150
def dz(l:GLaw):Nat->Int
 |0=>0
 |k+1=>match l.Scopes[k]? with|some t=>ca .i64 (dz l k+(t.Rules.length:Int))|none=>dz l k
def PU(l:GLaw) (i:Nat):Bool:=match l.Enums[i]? with|some x=>decide (80<(x.Name.size:Int)) || decide (20<(x.Members.length:Int)) || (x.Members.any λm=>decide (80<(m.size:Int)))|none=>false
theorem AM{l:GLaw}{i:Nat}(hi:i<l.Enums.length):PU l i=(decide (80<(l.Enums[i].Name.size:Int)) || decide (20<(l.Enums[i].Members.length:Int)) || (l.Enums[i].Members.any λm=>decide (80<(m.size:Int)))):=by
 grind[PU]
theorem QE(l:GLaw):∃b,cp l=some b/\(b=true->SmallL l):=by
 unfold cp;by_cases h1:9<(l.Enums.length:Int)
 .simp_all
 by_cases h2:9<(l.Tables.length:Int)
 .simp_all
 by_cases h3:5<(l.Scopes.length:Int)
 .simp_all
 have hc:(if¬9<(l.Enums.length:Int)then if¬9<(l.Tables.length:Int)then some (decide (5<(l.Scopes.length:Int)))else some true else some true)=some false:=by
  grind
 rw[hc,Kaa,if_neg (by simp)];have d:∀i (hi:i<l.Enums.length),l.Enums[i].Members.length<=20->da (sh l (i:Int)) 0=some (if(l.Enums[i].Members.any λm=>decide (80<(m.size:Int)))=true then .inr (.ret false)else .inl ()):=by
  intro i hi hm;have h:=bc (step:=sh l (i:Int)) (x0:=0) (λk=>(k:Int)) (λk=>if(l.Enums[i].Members[k]?.any λm=>decide (80<(m.size:Int)))=true then some (Ex.ret false)else none) l.Enums[i].Members.length () (λk hk _=>by
   unfold sh;rw[Ca hi,Kaa,if_pos (by omega),Ca hk,Kaa,Maa hk,ya (by omega)];simp only[Yab,decide_eq_true_eq];by_cases hb:80<(l.Enums[i].Members[k].size:Int)
   .rw[if_pos hb,if_pos hb];rfl
   .rw[if_neg hb,if_neg hb];rfl) (λ_=>by grind[sh,Ca])
  rw[h,←pn (g:=λ_=>(Ex.ret false:Ex Int Unit Bool))]
  cases hf:ff (λk=>if(l.Enums[i].Members[k]?.any λm=>decide (80<(m.size:Int)))=true then some (Ex.ret false:Ex Int Unit Bool)else none) l.Enums[i].Members.length with
  |none=>rfl
  |some v=>
   obtain⟨k,-,e,-⟩:=Oa.1 hf;split at e
   .injection e with e;subst e;rfl
   grind
 rcases YE (n:=l.Enums.length) (by omega) (PU l) (step:=Ij l) (λi hi=>by
  have d:=d i hi;unfold Ij;rw[if_pos (by omega),Ca hi,Kaa,AM hi]
  grind) (by grind[Ij])with k|⟨k,k1⟩
 .grind
 rw[k,Kaa];dsimp only;have q:=bc (step:=Hj l) (x0:=(0,0)) (λi=>(zA l i,(i:Int))) (λi=>match l.Tables[i]? with|some x=>if(decide (80<(x.Name.size:Int)) || decide (150<zA l (i+1)))=true then some false else none|none=>none) l.Tables.length () (λi hi _=>by
  unfold Hj;simp only[zA,Maa hi];rw[if_pos (by omega),Ca hi,Kaa,ya (by omega)]
  grind[sG]) (λ_=>by grind[Hj])
 rw[q,Kaa]
 cases hf:ff (λi=>match l.Tables[i]? with|some x=>if(decide (80<(x.Name.size:Int)) || decide (150<zA l (i+1)))=true then some false else none|none=>none) l.Tables.length with
 |some v=>
  refine⟨false,?_,by simp⟩;obtain⟨j,o,a,-⟩:=Oa.1 hf;rw[Maa o]at a;dsimp only at a;split at a
  .injection a with a;subst a;rfl
  grind
 |none=>
  have ht2:=Hb.1 hf;dsimp only[jc];have p:=bc (step:=Gj l) (x0:=(0,0)) (λi=>(dz l i,(i:Int))) (λi=>match l.Scopes[i]? with|some x=>if(decide (60<dz l (i+1)) || !((Lg x).getD true))=true then some false else none|none=>none) l.Scopes.length () (λi hi _=>by
   unfold Gj;simp only[dz,Maa hi];rw[if_pos (by omega),Ca hi,Kaa,ya (by omega)];obtain⟨b,hb,-⟩:=XB l.Scopes[i]
   grind[sG]) (λ_=>by grind[Gj])
  rw[p,Kaa]
  cases c:ff (λi=>match l.Scopes[i]? with|some x=>if(decide (60<dz l (i+1)) || !((Lg x).getD true))=true then some false else none|none=>none) l.Scopes.length with
  |some v=>
   refine⟨false,?_,by simp⟩;obtain⟨j,o,a,-⟩:=Oa.1 c;rw[Maa o]at a;dsimp only at a;split at a
   .injection a with a;subst a;rfl
   grind
  |none=>
   have f:=Hb.1 c;refine⟨true,rfl,λ_=>⟨by omega,by omega,by omega,?_,?_,?_,λi hi=>?_⟩⟩
   .intro x hx;obtain⟨i,hi,rfl⟩:=bab hx
    grind[AM]
   .intro x hx;obtain⟨i,hi,rfl⟩:=bab hx
    grind
   .intro x hx;obtain⟨i,hi,rfl⟩:=bab hx;have:=f i hi;rw[Maa hi]at this;dsimp only at this;split at this
    .cases this
    .rename_i hn;obtain⟨b,hb,hb2⟩:=XB l.Scopes[i]
     grind
   grind
def NL(l:GLaw):Prop:=∀s∈l.Scopes,∀r∈s.Rules,(∀n∈r.Guard,Xa n)/\∀n∈r.Value,Xa n
theorem SmallL.ok{l:GLaw}(h:SmallL l) (ht:NL l):LawOk l:=by
 have hne:=h.ne;have hnt:=h.nt;have hns:=h.ns;refine⟨by omega,by omega,by omega,λx hx=>?_,λx hx=>?_,λx hx=>?_⟩
 .obtain⟨a,b,c⟩:=h.e x hx
  grind
 .have:=h.t x hx;omega
 .obtain⟨a,b,c,d,e,f,g⟩:=h.s x hx;refine⟨by omega,⟨by omega,by omega,λr hr=>by grind⟩,by omega,λq hq=>by grind,λq hq=>by grind,λr hr=>?_⟩;have:=g r hr;obtain⟨t1,t2⟩:=ht x hx r hr
  grind
end Go.Proofs.Dev
