/-
  The functions as plain partial functions, and plain lemmas about them: no condition.
-/
import Derived.Test.YtjiaejcpmcknnaaGreatDoorPA
open Bool renaming and_false->nag,false_and->oag,false_eq_true->Tac,not_eq_true->Oae,not_false->maf,not_true->Cae,or_false->vag,true_and->Lad,true_eq_false->iad
open ByteArray renaming empty->Kaf,mk->Pac
open Classical renaming not_forall->mag,not_imp->zag
open Int renaming natAbs_tdiv->Mag,reduceBEq->Wac,reduceEq->Uac,tdiv->sad,tdiv_nonneg->Laf,tmod->zad,tmod_nonneg->Oag
open List renaming any_eq_true->Gaf,cons_append->mad,eq_nil_of_length_eq_zero->gad,filter_append->Zad,foldl_cons->tae,getElem?_eq_getElem->Lac,getElem_mem->Qac,getElem_of_mem->ead,getElem_take->Aae,length_filter_le->Fad,mem_cons->Wad,mem_filter->Uad,mem_map->jae,mem_of_mem_drop->laf,mem_singleton->xad,nodup_cons->Maf,pairwise_cons->uae,range->aad,replicate->Nac,take_add_one->yad,take_length->dae
open Nat renaming add_zero->eaf,le_refl->cad,le_trans->Vad
open Option renaming any_some->eae,bind->Kac,bind_some->Jac,getD_some->Qae,isSome_iff_exists->Uae
open Option.some renaming inj->nad,injEq->Aad
set_option linter.all false
namespace Go.Tm
variable {α β ρ σ:Type}
theorem wid{n:Int}(h1:-9223372036854775808<=n) (h2:n<9223372036854775808):ca .i64 n=n:=by
 grind[ca,SI]
theorem wa{i:Nat}(h:i<4611686018427387904):ca .i64 ((i:Int)+1)=((i+1:Nat):Int):=by
 grind[wid]
theorem Ba{l:List α}{i:Nat}(h:i<l.length):idx l (i:Int)=some l[i]:=by
 grind[idx]
theorem wL{l:List α}{i:Nat}:idx l (i:Int)=l[i]?:=by
 simp[idx]
theorem Si{l:List α}{i:Int}(h1:0<=i) (h2:i<l.length):idx l i=some (l[i.toNat]'(by omega)):=by
 simp_all[idx]
theorem NI{b:ByteArray}{i:Nat}(h:i<b.size):fu b (i:Int)=some (b[i].toNat:Int):=by
 simp_all[fu]
theorem Tu{l:List α}{i:Nat}(h:i<=l.length):Ws l (i:Int)=some (l.take i):=by
 simp_all[Ws]
theorem Z1{l:List α}{i:Nat}(h:i<=l.length):dE l (i:Int)=some (l.drop i):=by
 simp_all[dE]
theorem ui{b:Nat}{l r:List α}(h:(l.length+r.length)*b<=140737488355328):app b l r=some (l++r):=if_pos (by omega)
theorem Vy{l:List α}{i:Nat}{x:α}(h:i<l.length):put l (i:Int) x=some (l.set i x):=by
 simp_all[put]
theorem Sw{b n:Nat}{x:α}(h:n*b<=281474976710656) (h2:n<=4611686018427387904):Ww b x (n:Int) (n:Int)=some (Nac n x):=by
 grind[Ww]
def ff(f:Nat->Option ρ):Nat->Option ρ
 |0=>none
 |n+1=>match f 0 with|some v=>some v|none=>ff (λi=>f (i+1)) n
theorem nL{f g:Nat->Option ρ}:∀{n:Nat},(∀i,i<n->f i=g i)->ff f n=ff g n
 |0,_=>rfl
 |n+1,h=>by
  simp only[ff,h 0 (by omega)];rw[nL (n:=n) (f:=λi=>f (i+1)) (g:=λi=>g (i+1)) λi hi=>h (i+1) (by omega)]
theorem Zb{f:Nat->Option ρ}:∀{n:Nat},ff f n=none↔∀i,i<n->f i=none
 |0=>by simp[ff]
 |n+1=>by
  simp only[ff];constructor
  .intro h i hi
   cases h0:f 0 with
   |some v=>simp_all
   |none=>
    simp only[h0]at h
    cases i with
    |zero=>omega
    |succ i=>exact(Zb (f:=λi=>f (i+1))).1 h i (by omega)
  .intro h;rw[h 0 (by omega)];exact Zb.2 λi hi=>h (i+1) (by omega)
theorem Sa{f:Nat->Option ρ}{v:ρ}:∀{n:Nat},ff f n=some v↔∃i,i<n/\f i=some v/\∀j,j<i->f j=none
 |0=>by simp[ff]
 |n+1=>by
  simp only[ff];constructor
  .intro h
   cases h0:f 0 with
   |some w=>grind
   |none=>
    simp only[h0]at h;obtain⟨i,h1,h2,h3⟩:=(Sa (f:=λi=>f (i+1))).1 h;exact⟨i+1,by omega,h2,λj hj=>by cases j with|zero=>omega|succ j=>simp_all⟩
  .rintro⟨i,h1,h2,h3⟩
   cases i with
   |zero=>rw[h2]
   |succ i=>
    rw[h3 0 (by omega)];exact Sa.2 ⟨i,by omega,h2,λj hj=>h3 (j+1) (by omega)⟩
def fc(b:β):Option ρ->β⊕ρ
 |none=>.inl b
 |some v=>.inr v
def mH(s:σ):Option ρ->Ex σ β ρ
 |none=>.go s
 |some v=>.ret v
theorem wU{b:β}:fc b (none:Option ρ)=.inl b:=rfl
theorem S7{b:β}{v:ρ}:fc b (some v)=.inr v:=rfl
theorem bc{step:σ->Option (Ex σ β ρ)}{x0:σ}(S:Nat->σ) (f:Nat->Option ρ) (n:Nat) (b:β)
 (hgo:∀i,i<n->(∀j,j<i->f j=none)->step (S i)=some (mH (S (i+1)) (f i))) (hend:(∀j,j<n->f j=none)->step (S n)=some (.brk b)) (h0:x0=S 0:=by rfl) :
 da step x0=some (fc b (ff f n)):=by
 have key:∀k i,i+k=n->(∀j,j<i->f j=none)->da step (S i)=some (fc b (ff (λj=>f (i+j)) k)):=by
  intro k
  induction k with
  |zero=>
   intro i hi hf;rw[eaf]at hi;subst hi;rw[Hd (hend hf)];rfl
  |succ k ih=>
   intro i hi hf;have hs:=hgo i (by omega) hf;simp only[ff,eaf]
   cases h0:f i with
   |some v=>
    rw[h0]at hs;rw[By hs];rfl
   |none=>
    rw[h0]at hs;rw[Mh hs,ih (i+1) (by omega) λj hj=>by grind]
    grind
 simp_all
theorem Lc{step:σ->Option (Ex σ β ρ)}{x0:σ}(S:Nat->σ) (n:Nat) (b:β) (hgo:∀i,i<n->step (S i)=some (.go (S (i+1)))) (hend:step (S n)=some (.brk b)) (h0:x0=S 0:=by rfl):da step x0=some (.inl b):=by
 have key:∀k i,i+k=n->da step (S i)=some (.inl b):=by
  intro k
  induction k with
  |zero=>simp_all[Hd]
  |succ k ih=>grind[Mh]
 simp_all
theorem C6{l:List α}{p:α->Option Bool}(q:α->Bool) (hp:∀x∈l,p x=some (q x)) (hl:l.length<4611686018427387904) :
 da (λ(s:Int)=>if s<(l.length:Int)then(idx l s).bind λx=>(p x).bind λc=>if c=true then some (Ex.ret s)else some (Ex.go (ca .i64 (s+1)))else some (Ex.brk ())) 0
  = some (fc () (ff (λi=>if(l[i]?.any q)=true then some (i:Int)else none) l.length)):=by
 refine bc (λi=>(i:Int)) _ l.length () (λi hi _=>?_) (λ_=>?_)
 .rw[if_pos (by omega),Ba hi,Jac,hp _ (Qac hi),Jac,wid (by omega) (by omega)]
  grind[mH]
 simp
theorem Jm{l:List α}{q:α->Bool}{g:Nat->ρ}:(ff (λi=>if(l[i]?.any q)=true then some (g i)else none) l.length).isSome=l.any q:=by
 rw[Bool.eq_iff_iff,Uae,Gaf];constructor
 .grind[Sa]
 .rintro⟨x,hx,hq⟩;rw[←Uae,←Option.not_isNone,Bool.not_eq_true',Option.isNone_eq_false_iff,Option.isSome_iff_ne_none];intro hn;obtain⟨i,hi,rfl⟩:=ead hx
  grind[Zb]
theorem rn{l:List α}{p:α->Option Bool}(q:α->Bool) (hp:∀x∈l,p x=some (q x)) (hl:l.length<4611686018427387904) {o:Option (Unit⊕Int)}
 (ho:o=da (λ(s:Int)=>if s<(l.length:Int)then(idx l s).bind λx=>(p x).bind λc=>if c=true then some (Ex.ret s)else some (Ex.go (ca .i64 (s+1)))else some (Ex.brk ())) 0) :
 ((o.bind λy=>match y with|.inr v=>some v|.inl _=>some (-1)).bind λx=>some (decide (0<=x)))=some (l.any q):=by
 rw[ho,C6 q hp hl];rw[←Jm (q:=q) (g:=λi=>(i:Int))]
 cases h:ff (λi=>if(l[i]?.any q)=true then some (i:Int)else none) l.length with
 |none=>simp[fc]
 |some v=>
  grind[fc,Sa]
end Go.Tm
set_option maxRecDepth 10000
namespace Go.Proofs.Dev
open Go Go.Tm
def VT(c:Int):Bool:=decide (97<=c)&&decide (c<=122)
def N4(c:Int):Bool:=decide (48<=c)&&decide (c<=57)
def rM(c:Int):Bool:=VT c || N4 c || c==95
theorem Rx{a b c:Int}:(Kac (if a<=c then some (decide (c<=b))else some false) λj=>some j)=some (decide (a<=c)&&decide (c<=b)):=by
 grind
theorem Iw(c:Int):fo c=some (VT c):=Rx
theorem SD(c:Int):Zq c=some (N4 c):=Rx
theorem uz(c:Int):Mr c=some (VT c):=Rx
theorem EH(c:Int):Nu c=some (N4 c):=Rx
theorem FJ(c:Int):Rt c=some (rM c):=by
 grind[Rt,rM,uz,EH]
def Hs(s:ByteArray) (i:Nat):Bool:=if h:i<s.size then rM (s[i].toNat:Int)else false
def qy(s:ByteArray):Bool:=(ff (λi=>if Hs s i=true then none else some ()) s.size).isNone
theorem Iz{s:ByteArray}(hs:s.size<4611686018427387904):∃n,Zj s=some n/\(n=(s.size:Int)↔qy s=true):=by
 have hstep:∀i:Nat,i<s.size->qd s (i:Int)=some (if Hs s i=true then .go ((i+1:Nat):Int)else .brk (i:Int)):=by
  intro i hi;unfold qd;rw[if_pos (by omega),NI hi,Jac];simp only[Iw,SD,Jac,Hs,dif_pos hi,rM]
  grind[wid]
 have w1:∀i,(if Hs s i=true then none else some ())=none->Hs s i=true:=λi h=>by
  simp_all
 unfold Zj
 cases h:ff (λi=>if Hs s i=true then none else some ()) s.size with
 |none=>
  have h1:=Zb.1 h;have hl:da (qd s) 0=some (.inl (s.size:Int)):=Lc (λi=>(i:Int)) s.size (s.size:Int)
   (λi hi=>by simp_all) (by grind[qd])
  rw[hl];exact⟨_,rfl,by grind[qy]⟩
 |some v=>
  obtain⟨k,h1,h2,h3⟩:=Sa.1 h;have hl:da (qd s) 0=some (.inl (k:Int)):=Lc (λi=>(i:Int)) k (k:Int)
   (λi hi=>by grind) (by
    simp_all)
  rw[hl];exact⟨_,rfl,by grind[qy]⟩
noncomputable def GC:List ByteArray:=(Rf).getD []
theorem NT{p:Prop} [Decidable p] {b:Bool}:(if p then some true else some b)=some (decide p || b):=by
 grind
theorem DP{s a:ByteArray}{l:List ByteArray}:((a::l).any λr=>decide (s=r))=(decide (s=a) || (l.any λr=>decide (s=r))):=rfl
theorem VR{s:ByteArray}:(([]:List ByteArray).any λr=>decide (s=r))=false:=rfl
theorem KN(s:ByteArray):Ke s=some (GC.any λr=>decide (s=r)):=by
 unfold Ke GC Rf;simp (config := { maxSteps := 4000000 }) only[Qae,DP,VR,NT,Jac,vag];simp
theorem JN(s:ByteArray):∃b,Ke s=some b:=by
 unfold Ke;simp (config := { maxSteps := 4000000 }) only[NT,Jac];simp
noncomputable def aZ(s:ByteArray):Bool:=(Ke s).getD false
theorem JG(s:ByteArray):Ke s=some (aZ s):=by
 obtain⟨b,h⟩:=JN s
 grind[aZ]
noncomputable def Uj(s:ByteArray):Bool:=if h:0<s.size/\s.size<=16 then VT (s[0].toNat:Int)&&qy s&&!(aZ s)else false
theorem pI{s:ByteArray}:s=Pac #[]↔s.size=0:=by
 constructor
 .rintro rfl;rfl
 .intro h;obtain⟨a⟩:=s;congr 1;exact Array.eq_empty_of_size_eq_zero h
theorem cp{s:ByteArray}(hs:s.size<4611686018427387904):vb s=some (Uj s):=by
 obtain⟨n,hn,hn2⟩:=Iz hs;unfold vb Uj;by_cases h0:s.size=0
 .simp_all[pI]
 .have hx:fu s 0=some (s[0].toNat:Int):=NI (i:=0) (by omega);rw[if_pos (by grind[pI]),hx];simp only[Jac,Iw,hn,hn2,JG]
  grind
theorem Rm{s:ByteArray}(hs:s.size<4611686018427387904):wb s=some (Uj s):=by
 unfold wb Uj;by_cases h:0<s.size/\s.size<=16
 .have hx:fu s 0=some (s[0].toNat:Int):=NI (i:=0) (by omega);have hres:aZ s=GC.any λr=>decide (s=r):=nad ((JG s).symm.trans (KN s));rw[dif_pos h,if_pos (by omega),if_pos (by omega),hx,hres];simp only[Jac,uz]
  cases hl:VT (s[0].toNat:Int)with
  |false=>simp
  |true=>
   have hl1:da (mf s) 0=some (fc () (ff (λi=>if Hs s i=true then none else some false) s.size)):=
    bc (λi=>(i:Int)) _ s.size () (λi hi _=>by
     unfold mf;rw[if_pos (by omega),NI hi];simp only[Jac,FJ,Hs,dif_pos hi];rw[wid (by omega) (by omega)];cases rM (s[i].toNat:Int)<;>rfl) (λ_=>by grind[mf])
   have hR:Rf=some GC:=by grind[GC,Rf]
   have hlen:GC.length=55:=by unfold GC Rf;rfl
   have hl2:da (lf s GC) 0=some (fc () (ff (λi=>if(GC[i]?.any λr=>decide (s=r))=true then some false else none) GC.length)):=
    bc (λi=>(i:Int)) _ GC.length () (λi hi _=>by
     unfold lf;rw[if_pos (by omega),Ba hi,Lac hi];simp only[Jac,eae,decide_eq_true_eq];rw[wid (by omega) (by omega)];by_cases he:s=GC[i]
     .rw[if_pos he.symm,if_pos he];rfl
     .rw[if_neg (λh=>he h.symm),if_neg he];rfl) (λ_=>by grind[lf])
   simp only[Cae,Tac,if_false,hl1,hR,Jac];have ha:=Jm (l:=GC) (q:=λr=>decide (s=r)) (g:=λ_=>false);have hw:qy s=(ff (λi=>if Hs s i=true then none else some false) s.size).isNone:=by
    unfold qy
    cases h1:ff (λi=>if Hs s i=true then none else some ()) s.size with
    |none=>
     grind[Zb]
    |some v=>
     obtain⟨k,k1,k2,k3⟩:=Sa.1 h1
     cases h2:ff (λi=>if Hs s i=true then none else some false) s.size with
     |some _=>rfl
     |none=>
      grind[Zb]
   rw[hw,←ha]
   cases h1:ff (λi=>if Hs s i=true then none else some false) s.size with
   |some v=>
    grind[fc,Sa]
   |none=>
    simp only[fc,hl2,Jac,Option.isNone_none,Lad]
    grind[Sa]
 grind
def ia(t:GType) (e:List GEnum):Bool:=
 if t.Kind=6 then decide (0<=t.Enum)&&decide (t.Enum<(e.length:Int))else decide (1<=t.Kind)&&decide (t.Kind<=5)&&(t.Enum==0)
noncomputable def vtX(t0:GType) (t1:List GEnum):Option Bool:=
 if t0.Kind=6 then
  Kac (α:=Bool) (
   if 0<=t0.Enum then
    some (decide (t0.Enum<(t1.length:Int)))
   else
   some false) λj3=>
  some j3
 else
 Kac (α:=Bool) (
  if 1<=t0.Kind then
   if t0.Kind<=5 then
    some (t0.Enum==0)
   else
   some false
  else
  some false) λj6=>
 some j6
theorem B2(t:GType) (e:List GEnum):vtX t e=some (ia t e):=by
 grind[vtX,ia]
theorem Oa(t:GType) (e:List GEnum):Rb t e=some (ia t e):=B2 t e
theorem Ka(t:GType) (e:List GEnum):Tb t e=some (ia t e):=by
 rw[←B2]
 grind[Tb,vtX]
theorem IP(t:GType) (e:List GEnum):jd t e=Ff t e:=by
 grind[jd,Ff,Ka,Oa]
theorem JP(t:GType) (e:List GEnum):∃p,jd t e=some p:=by
 unfold jd;rw[Ka,Jac]
 cases h:ia t e with
 |false=>simp
 |true=>
  simp only[iad,if_false]
  repeat' split
  all_goals first|exact⟨_,rfl⟩|skip
  have h6:t.Kind=6:=by
   grind[ia]
  unfold ia at h;rw[if_pos h6]at h;simp at h;rw[Si h.1 h.2];simp
noncomputable def cg(t:GType) (e:List GEnum):Int×Int:=(jd t e).getD (0,0)
theorem bg(t:GType) (e:List GEnum):jd t e=some (cg t e):=by
 obtain⟨p,hp⟩:=JP t e
 grind[cg]
theorem Um(t:GType) (e:List GEnum):Ff t e=some (cg t e):=by rw[←IP,bg]
noncomputable def zR(n:Int) (t:GType) (e:List GEnum):Bool:=decide ((cg t e).1<=n)&&decide (n<=(cg t e).2)
theorem FN(n:Int) (t:GType) (e:List GEnum):Tt n t e=some (zR n t e):=by
 grind[Tt,zR,Um]
def yR(r:GDateRange):Bool:=decide (0<=r.From)&&(decide (r.From<=r.To)&&decide (r.To<=109573))
theorem vp(r:GDateRange):yg r=some (yR r):=by
 grind[yg,yR]
theorem cr(r:GDateRange):dj r=some (yR r):=by
 grind[dj,yR]
def Bw(a b:GRow):Bool:=yR a.Valid&&yR b.Valid&&decide (max a.Valid.From b.Valid.From<min a.Valid.To b.Valid.To)&&decide (max a.Lo b.Lo<min a.Hi b.Hi)
theorem zC(a b:GRow):Wm a b=some (Bw a b):=by
 unfold Wm Eo Bw;simp only[cr,Jac]
 grind
theorem KC(a b:GRow):kn a b=some (Bw a b):=by
 unfold kn Jj Ki Bw;simp only[vp,Jac];cases yR a.Valid<;>cases yR b.Valid<;>simp only[Tac,if_false,if_true,Jac,maf,Cae,oag,Lad,nag]
 all_goals grind
noncomputable def lH(x:GRow) (t:GTable) (e:List GEnum):Bool:=
 !(yR x.Valid) || decide (x.Valid.From=x.Valid.To) || decide (x.Hi<=x.Lo) || !(zR x.Lo t.Key e) || !(zR (ca .i64 (x.Hi-1)) t.Key e) || !(zR x.N t.Value e)
theorem HH(x:GRow) (t:GTable) (e:List GEnum):Nr x t e=some (lH x t e):=by
 unfold Nr lH;simp only[cr,FN,Jac]
 grind
noncomputable def XJ(t:GTable) (e:List GEnum) (i:Nat):Option (Int×Int):=
 match t.Rows[i]? with
 |some x=>if lH x t e=true then some ((i:Int),3)else if((t.Rows.take i).any λy=>Bw y x)=true then some ((i:Int),11)else none
 |none=>none
noncomputable def bq(t:GTable) (e:List GEnum):Int×Int:=
 if 64<t.Rows.length then(64,4)else if(ia t.Key e&&ia t.Value e)=false then(-1,8)else(ff (XJ t e) t.Rows.length).getD (0,0)
theorem iN{l:List GRow}{x:GRow}(hl:l.length<4611686018427387904):∃p,Se l (λy=>Dd y x)=some p/\p.2=l.any λy=>Bw y x:=by
 have hl1:da (Oe l (λy=>Dd y x)) 0=some (fc () (ff (λi=>if(l[i]?.any λy=>Bw y x)=true then some ((i:Int),true)else none) l.length)):=
  bc (λi=>(i:Int)) _ l.length () (λi hi _=>by
   unfold Oe;rw[if_pos (by omega),Ba hi,Lac hi]
   grind[Dd,mH,KC,wa]) (λ_=>by grind[Oe])
 unfold Se;rw[hl1,←Jm (q:=λy=>Bw y x) (g:=λi=>((i:Int),true)),Jac]
 cases h:ff (λi=>if(l[i]?.any λy=>Bw y x)=true then some ((i:Int),true)else none) l.length with
 |none=>exact⟨_,rfl,rfl⟩
 |some v=>
  obtain⟨k,h1,h2,-⟩:=Sa.1 h;refine⟨_,rfl,?_⟩
  grind
theorem JC(t:GTable) (e:List GEnum):xk t e=some (bq t e):=by
 unfold xk bq;by_cases h64:64<t.Rows.length
 .grind
 .rw[if_neg (by omega),if_neg h64];simp only[Ka,bg,Jac];have hl:da (zj t (cg t.Key e) (cg t.Value e)) 0=some (fc () (ff (XJ t e) t.Rows.length)):=
   bc (λi=>(i:Int)) _ t.Rows.length () (λi hi _=>by
    unfold zj XJ;rw[if_pos (by omega),Ba hi,Lac hi];simp only[Jac,vp];rw[Tu (by omega),wa (by omega)];obtain⟨p,hp,hp2⟩:=iN (l:=t.Rows.take i) (x:=t.Rows[i]) (by grind)
    grind[lH,zR,mH]) (λ_=>by grind[zj])
  rw[hl];cases ia t.Key e<;>cases ia t.Value e<;>simp only[Tac,if_false,if_true,Jac,maf,Cae,oag,Lad,nag,iad];cases ff (XJ t e) t.Rows.length<;>rfl
theorem yC(t:GTable) (e:List GEnum):Vm t e=some (bq t e):=by
 unfold Vm bq;by_cases h64:64<t.Rows.length
 .grind
 .rw[if_neg (by omega),if_neg h64];simp only[Oa,Jac];have hl:da (kj t e) 0=some (fc () (ff (XJ t e) t.Rows.length)):=
   bc (λi=>(i:Int)) _ t.Rows.length () (λi hi _=>by
    have hl2:da (jj t (i:Int) t.Rows[i]) 0=some (fc () (ff (λk=>if((t.Rows.take i)[k]?.any λy=>Bw y t.Rows[i])=true then some (Ex.ret ((i:Int),11))else none) (t.Rows.take i).length)):=
     bc (λi=>(i:Int)) _ (t.Rows.take i).length () (λk hk _=>by
      have hk':k<i:=by grind
      unfold jj;rw[if_pos (by omega),Ba (by omega),Lac hk]
      grind[mH,zC,wa]) (λ_=>by
       grind[jj])
    unfold kj XJ;rw[if_pos (by omega),Ba hi,Lac hi];simp only[Jac,HH,hl2];rw[wa (by omega),←Jm (q:=λy=>Bw y t.Rows[i]) (g:=λk=>(Ex.ret ((i:Int),11):Ex Int Unit (Int×Int)))];cases lH t.Rows[i] t e
    .simp only[Tac,if_false]
     cases h:ff (λk=>if((t.Rows.take i)[k]?.any λy=>Bw y t.Rows[i])=true then some (Ex.ret ((i:Int),11):Ex Int Unit (Int×Int))else none) (t.Rows.take i).length with
     |none=>rfl
     |some v=>
      obtain⟨k,h1,h2,-⟩:=Sa.1 h;split at h2
      .injection h2 with h2;subst h2;rfl
      simp_all
    .rfl) (λ_=>by grind[kj])
  rw[hl];cases ia t.Key e<;>cases ia t.Value e<;>simp only[Tac,if_false,if_true,Jac,maf,Cae,oag,Lad,nag,iad];cases ff (XJ t e) t.Rows.length<;>rfl
def kb(op:Int):Int:=
 if(1<=op/\op<=9)\/(35<=op/\op<=39)then 0
 else if op=10\/op=25\/(31<=op/\op<=34)then 1
 else if op=26 then 3
 else if 11<=op/\op<=30 then 2 else -1
theorem fG{op:Int}(h:1<=op/\op<=39):op=1\/op=2\/op=3\/op=4\/op=5\/op=6\/op=7\/op=8\/op=9\/op=10\/op=11\/op=12\/op=13\/op=14\/op=15\/op=16\/op=17\/op=18\/op=19\/op=20\/op=21\/op=22\/op=23\/op=24\/op=25\/op=26\/op=27\/op=28\/op=29\/op=30\/op=31\/op=32\/op=33\/op=34\/op=35\/op=36\/op=37\/op=38\/op=39:=by omega
theorem PB{op:Int}(h:¬(1<=op/\op<=39)):kb op = -1:=by
 grind[kb]
theorem Oi(op:Int):xh op=some (kb op):=by
 by_cases h:1<=op/\op<=39
 .rcases fG h with h|h|h|h|h|h|h|h|h|h|h|h|h|h|h|h|h|h|h|h|h|h|h|h|h|h|h|h|h|h|h|h|h|h|h|h|h|h|h<;>subst h<;>simp[xh,kb]
 .rw[PB h];unfold xh;have hn:∀k:Int,1<=k->k<=39->¬op=k:=λk h1 h2 he=>h (by omega);simp[hn]
theorem dv(op:Int):Gk op=some (kb op):=by
 grind[Gk,kb]
def Ib(op:Int):Bool:=decide ((1<=op/\op<=8)\/(14<=op/\op<=16)\/(33<=op/\op<=34)\/(36<=op/\op<=39))
theorem ya{op:Int}(h:1<=op/\op<=39):Im op=some (Ib op):=by
 rcases fG h with h|h|h|h|h|h|h|h|h|h|h|h|h|h|h|h|h|h|h|h|h|h|h|h|h|h|h|h|h|h|h|h|h|h|h|h|h|h|h<;>subst h<;>simp[Im,Ib]
theorem Sb{op:Int}(h:1<=op/\op<=39):Wl op=some (Ib op):=by
 rcases fG h with h|h|h|h|h|h|h|h|h|h|h|h|h|h|h|h|h|h|h|h|h|h|h|h|h|h|h|h|h|h|h|h|h|h|h|h|h|h|h<;>subst h<;>simp[Wl,Ib]
def Jr(k:Int):Bool:=k==2 || k==3 || k==4
theorem Cg(k:Int):Df k=some (Jr k):=by
 grind[Df,Jr]
theorem Vt(k:Int):ij k=some (Jr k):=by
 grind[ij,Jr]
theorem Lw(k:Int):Yg k=some (Jr k || k==5):=by
 grind[Yg,Vt]
noncomputable def Fa(n:GNode) (ops:List GType) (s:GSignature):Option (GType×Int):=
 Kac (α:=Bool) (if¬n.N=0 then(Im n.Op).bind λx=>some (!x)else some false) λj=>if j=true then some ((GType.mk 0 0),2)else na n ops s
def Xa(n:GNode):Prop:=-9223372036854775808<=n.N/\n.N<=9223372036854775807
theorem kK{n:Int}{k:Int}(hk:1<=k) (h:-9223372036854775808<=n/\n<=9223372036854775807):ca .i64 (sad n k)=sad n k:=by
 have h1:(sad n k).natAbs<=n.natAbs:=by
  rw[Mag];exact Nat.div_le_self _ _
 by_cases hn:n = -9223372036854775808
 .by_cases hk1:k=1
  .subst hk1;subst hn;rfl
  .have:(sad n k).natAbs<n.natAbs:=by
    rw[Mag];exact Nat.div_lt_self (by omega) (by omega)
   grind[wid]
 grind[wid]
end Go.Proofs.Dev
set_option maxHeartbeats 1000000
namespace Go.Proofs.Dev
open Go Go.Tm
theorem GB{t:GType}{e:List GEnum}(h:ia t e=true) (hk:t.Kind≠6):t.Enum=0:=by
 simp_all[ia]
theorem jO{k:Int}{e:List GEnum}(h1:1<=k) (h2:k<=5):ia ⟨k,0⟩ e=true:=by
 grind[ia]
theorem eE{e:List GEnum}:ia ⟨1,0⟩ e=true:=jO (by omega) (by omega)
theorem FB{e:List GEnum}:ia ⟨2,0⟩ e=true:=jO (by omega) (by omega)
theorem qM{e:List GEnum}:ia ⟨3,0⟩ e=true:=jO (by omega) (by omega)
theorem jW{e:List GEnum}:ia ⟨4,0⟩ e=true:=jO (by omega) (by omega)
theorem vt_5{e:List GEnum}:ia ⟨5,0⟩ e=true:=jO (by omega) (by omega)
def HB(n:GNode) (ops:List GType) (s:GSignature):Prop:=
 Fa n ops s=Ta n ops s/\∃r,Ta n ops s=some r/\(r.2=0->ia r.1 s.Enums=true)
theorem nU{n:GNode}{s:GSignature}{k:Int}(hk:1<=k/\k<=5) (hn:n.Op=k):HB n [] s:=by
 have hu:=ya (op:=n.Op) (by omega);have hm:=Sb (op:=n.Op) (by omega);have hus:Ib n.Op=true:=by grind[Ib]
 have hv:ia ⟨n.Op,0⟩ s.Enums=true:=jO (by omega) (by omega);have hR:Ta n [] s=some (if(cg ⟨n.Op,0⟩ s.Enums).1<=n.N/\n.N<=(cg ⟨n.Op,0⟩ s.Enums).2 then(⟨n.Op,0⟩,0)else(⟨0,0⟩,3)):=by
  unfold Ta db ic Ej xb;simp only[Um,hm,hus,Jac];have h6:¬n.Op=6:=by omega
  have h7:¬n.Op=7:=by omega
  have h8:¬n.Op=8:=by omega
  have h9:¬n.Op=9:=by omega
  have h33:¬n.Op=33:=by omega
  have h34:¬n.Op=34:=by omega
  have h35:¬n.Op=35:=by omega
  have h36:¬n.Op=36:=by omega
  have h37:¬n.Op=37:=by omega
  have h38:¬n.Op=38:=by omega
  have h39:¬n.Op=39:=by omega
  have hin:(if n.Op=1 then some true else if n.Op=2 then some true else if n.Op=3 then some true else if n.Op=4 then some true else some (n.Op==5))=some true:=by
   rcases(by omega:n.Op=1\/n.Op=2\/n.Op=3\/n.Op=4\/n.Op=5)with h|h|h|h|h<;>simp[h]
  simp only[hin,h6,h7,h8,h9,h33,h34,h35,h36,h37,h38,h39,Oa,hv,Jac,if_true,if_false,Rx]
  grind
 have hI:Fa n [] s=some (if(cg ⟨n.Op,0⟩ s.Enums).1<=n.N/\n.N<=(cg ⟨n.Op,0⟩ s.Enums).2 then(⟨n.Op,0⟩,0)else(⟨0,0⟩,3)):=by
  grind[Db,cg,na,Fa,bg]
 refine⟨by simp_all,_,hR,?_⟩
 grind
theorem Ht{N:Int}:(if¬N=0 then(some true).bind λx=>some (!x)else some false)=some false:=by simp
theorem mz{N:Int}:(if¬N=0 then(some false).bind λx=>some (!x)else some false)=some (!(N==0)):=by
 grind
theorem su{α:Type}{x:α}{Q:α->Prop}:(∃r,some x=some r/\Q r)=Q x:=by simp
theorem Fu{α:Type}{l:List α}{N:Int}(d:α) (h0:0<=N) (h1:N<(l.length:Int)):idx l N=some ((l[N.toNat]?).getD d):=by
 grind[Si]
theorem G7{N:Int}{s:GSignature}(hN:Xa ⟨6,N⟩):HB ⟨6,N⟩ [] s:=by
 have w:=kK (n:=N) (k:=16) (by omega) hN;have hu:=ya (op:=6) (by omega);have hm:=Sb (op:=6) (by omega);have hus:Ib 6=true:=rfl;unfold HB Fa na Xg Ta db ic Ej;simp only[w,hu,hm,hus,Oa,Ht];by_cases h0:0<=N
 .have hd:0<=sad N 16:=Laf h0 (by omega);by_cases h1:sad N 16<(s.Enums.length:Int)
  .rw[Fu ⟨Kaf,[]⟩ hd h1];have hv:ia ⟨6,sad N 16⟩ s.Enums=true:=by grind[ia]
   generalize (s.Enums[(sad N 16).toNat]?).getD ⟨Kaf,[]⟩=m;have e1:¬N<0:=by omega
   have e2:¬(s.Enums.length:Int)<=sad N 16:=by omega
   by_cases h2:zad N 16<(m.Members.length:Int)
   .have e3:¬(m.Members.length:Int)<=zad N 16:=by omega
    simp[h0,h1,h2,hv,e1,e2,e3,su,-Prod.exists]
   grind
  grind
 simp_all
theorem H7{N:Int}{s:GSignature}:HB ⟨7,N⟩ [] s:=by
 have hu:=ya (op:=7) (by omega);have hm:=Sb (op:=7) (by omega);have hus:Ib 7=true:=rfl;unfold HB Fa na Qb Ta db ic Ej;simp only[hu,hm,hus,Oa,Ka,Ht];by_cases h0:0<=N
 .have e1:¬N<0:=by omega
  by_cases h1:N<(s.Inputs.length:Int)
  .rw[Fu ⟨0,0⟩ h0 h1];generalize (s.Inputs[N.toNat]?).getD ⟨0,0⟩=t;obtain⟨tk,te⟩:=t;have e2:¬(s.Inputs.length:Int)<=N:=by omega
   cases hv:ia ⟨tk,te⟩ s.Enums<;>simp[h0,h1,hv,e1,e2,su,-Prod.exists]
  simp_all
 grind
theorem I7{N:Int}{s:GSignature}:HB ⟨8,N⟩ [] s:=by
 have hu:=ya (op:=8) (by omega);have hm:=Sb (op:=8) (by omega);have hus:Ib 8=true:=rfl;unfold HB Fa na Qb Ta db ic Ej;simp only[hu,hm,hus,Oa,Ka,Ht];by_cases h0:0<=N
 .have e1:¬N<0:=by omega
  by_cases h1:N<(s.Defs.length:Int)
  .rw[Fu ⟨0,0⟩ h0 h1];generalize (s.Defs[N.toNat]?).getD ⟨0,0⟩=t;obtain⟨tk,te⟩:=t;have e2:¬(s.Defs.length:Int)<=N:=by omega
   cases hv:ia ⟨tk,te⟩ s.Enums<;>simp[h0,h1,hv,e1,e2,su,-Prod.exists]
  simp_all
 grind
theorem J7{N:Int}{s:GSignature}:HB ⟨9,N⟩ [] s:=by
 have hu:=ya (op:=9) (by omega);have hm:=Sb (op:=9) (by omega);have hus:Ib 9=false:=rfl;unfold HB Fa na Ta db ic Ej xb;simp only[hu,hm,hus,Oa,mz];cases N==0<;>simp[vt_5,su,-Prod.exists]
theorem nY{N:Int}{s:GSignature}:HB ⟨35,N⟩ [] s:=by
 have hu:=ya (op:=35) (by omega);have hm:=Sb (op:=35) (by omega);have hus:Ib 35=false:=rfl;unfold HB Fa na Dg Ta db ic Ej xb;simp only[hu,hm,hus,Oa,mz];cases hm:s.HasMembers<;>cases N==0<;>simp[hm,FB,su,-Prod.exists]
theorem oU{op N:Int}{s:GSignature}(h:36<=op/\op<=39):HB ⟨op,N⟩ [] s:=by
 have hu:=ya (op:=op) (by omega);have hm:=Sb (op:=op) (by omega);have hus:Ib op=true:=by grind[Ib]
 unfold HB Fa na Dg Qb Ta db ic Ej;simp only[hu,hm,hus,Oa,Ka,Cg,Lw,Ht];cases hM:s.HasMembers
 .rcases(by omega:op=36\/op=37\/op=38\/op=39)with h|h|h|h<;>subst h<;>simp[hM,su,-Prod.exists]
 .by_cases h0:0<=N
  .have e1:¬N<0:=by omega
   by_cases h1:N<(s.MemberDefs.length:Int)
   .rw[Fu ⟨0,0⟩ h0 h1];generalize (s.MemberDefs[N.toNat]?).getD ⟨0,0⟩=t;obtain⟨tk,te⟩:=t;have e2:¬(s.MemberDefs.length:Int)<=N:=by omega
    cases hv:ia ⟨tk,te⟩ s.Enums
    .rcases(by omega:op=36\/op=37\/op=38\/op=39)with h|h|h|h<;>subst h<;>simp[hM,h0,h1,hv,e1,e2,su,-Prod.exists]
    .rcases(by omega:op=36\/op=37\/op=38\/op=39)with h|h|h|h<;>subst h<;>simp only[hM,h0,h1,hv,e1,e2,Jac,if_true,if_false,not_true_eq_false,not_false_eq_true,decide_false,decide_true,Tac,iad,Uac,beq_self_eq_true,Wac]
     .by_cases k2:tk=2<;>by_cases k3:tk=3<;>simp[k2,k3,hv,su,-Prod.exists]<;>simp_all
     all_goals grind
   .have e2:(s.MemberDefs.length:Int)<=N:=by omega
    rcases(by omega:op=36\/op=37\/op=38\/op=39)with h|h|h|h<;>subst h<;>simp[hM,h0,h1,e1,e2,su,-Prod.exists]
  .have e1:N<0:=by omega
   rcases(by omega:op=36\/op=37\/op=38\/op=39)with h|h|h|h<;>subst h<;>simp[hM,h0,e1,su,-Prod.exists]
theorem Bh{α:Type}{x:α}{l:List α}:idx (x::l) 0=some x:=rfl
theorem NF{α:Type}{x y:α}{l:List α}:idx (x::y::l) 1=some y:=rfl
theorem Haa{α:Type}{x y z:α}{l:List α}:idx (x::y::z::l) 2=some z:=rfl
theorem pU{op N:Int}{s:GSignature}{a:GType}(hop:op=10\/op=25\/op=31\/op=32) (ha:ia a s.Enums=true):HB ⟨op,N⟩ [a] s:=by
 have hu:=ya (op:=op) (by omega);have hm:=Sb (op:=op) (by omega);have hus:Ib op=false:=by grind[Ib]
 unfold HB Fa na Aa Ta db ic kl xb;simp only[hu,hm,hus,mz,Cg,Vt];obtain⟨ak,ae⟩:=a;rcases hop with h|h|h|h<;>subst h<;>cases N==0
 .simp
 .cases hn:Jr ak<;>simp[Bh,hn,ha,su,-Prod.exists]
 .simp
 .by_cases k1:ak=1
  .subst k1;have:=GB ha (by simp)
   simp_all[Bh]
  simp_all[Bh]
 .simp
 .by_cases k1:ak=5<;>simp[Bh,k1,FB,su,-Prod.exists]
 .simp
 .by_cases k1:ak=5<;>simp[Bh,k1,FB,su,-Prod.exists]
theorem lY{N:Int}{s:GSignature}{a:GType}(ha:ia a s.Enums=true):HB ⟨33,N⟩ [a] s:=by
 have hu:=ya (op:=33) (by omega);have hm:=Sb (op:=33) (by omega);have hus:Ib 33=true:=rfl;unfold HB Fa na Ah Ta db ic kl;simp only[hu,hm,hus,Oa,Ka,Ht];by_cases h0:0<=N
 .have e1:¬N<0:=by omega
  by_cases h1:N<(s.Tables.length:Int)
  .obtain⟨t,ht⟩:∃t,idx s.Tables N=some t:=⟨_,Si h0 h1⟩;have e2:¬(s.Tables.length:Int)<=N:=by omega
   cases hk:ia t.Key s.Enums
   .simp[Bh,ht,h0,h1,e1,e2,hk,su,-Prod.exists]
   .cases hv:ia t.Value s.Enums
    .simp[Bh,ht,h0,h1,e1,e2,hk,hv,su,-Prod.exists]
    .by_cases k1:a.Kind=t.Key.Kind<;>by_cases k2:a.Enum=t.Key.Enum<;>simp[Bh,ht,h0,h1,e1,e2,hk,hv,k1,k2,su,-Prod.exists]
  simp_all[Bh]
 .have e1:N<0:=by omega
  have e3:¬N<(s.Tables.length:Int)\/N<(s.Tables.length:Int):=by omega
  simp[Bh,h0,e1,su,-Prod.exists]
theorem mY{N:Int}{s:GSignature}{a:GType}(hN:Xa ⟨34,N⟩) (ha:ia a s.Enums=true):HB ⟨34,N⟩ [a] s:=by
 have hu:=ya (op:=34) (by omega);have hm:=Sb (op:=34) (by omega);have hus:Ib 34=true:=rfl;have w:=kK (n:=N) (k:=8) (by omega) hN;unfold HB Fa na Ah Pf Ta db ic kl xb;simp only[hu,hm,hus,Oa,Ka,Ht,w];by_cases h0:0<=N
 .have e1:¬N<0:=by omega
  have hd:0<=sad N 8:=Laf h0 (by omega);have hmod:0<=zad N 8:=Oag _ h0;have e3:¬sad N 8<0:=by omega
  by_cases h5:zad N 8<=5
  .by_cases h1:sad N 8<(s.Tables.length:Int)
   .obtain⟨t,ht⟩:∃t,idx s.Tables (sad N 8)=some t:=⟨_,Si hd h1⟩;have e2:¬(s.Tables.length:Int)<=sad N 8:=by omega
    obtain⟨_,⟨kk,ke⟩,⟨vk,ve⟩,_⟩:=t;obtain⟨ak,ae⟩:=a;simp only[Bh,ht,h0,h1,e1,e2,e3,hmod,h5,Jac,if_true,if_false,not_true_eq_false,not_false_eq_true,decide_false,decide_true,Tac,iad,Uac,beq_self_eq_true,Wac,Cae,maf];by_cases hk3:kk=3
    .subst hk3;by_cases hke:ke=0
     .subst hke;rw[show ia ⟨3,0⟩ s.Enums=true from qM];by_cases hv4:vk=4
      .subst hv4
       grind[ia]
      grind[ia]
     simp_all[ia]
    .cases ia ⟨kk,ke⟩ s.Enums<;>cases ia ⟨vk,ve⟩ s.Enums<;>by_cases ha3:ak=3<;>by_cases hak:ak=kk<;>by_cases hae:ae=ke<;>simp_all[su,-Prod.exists]
   simp_all[Bh]
  simp_all[Bh]
 .have e1:N<0:=by omega
  simp[Bh,h0,e1,su,-Prod.exists]
theorem kY{N:Int}{s:GSignature}{a b c:GType}(hb:ia b s.Enums=true):HB ⟨26,N⟩ [a,b,c] s:=by
 have hu:=ya (op:=26) (by omega);have hm:=Sb (op:=26) (by omega);have hus:Ib 26=false:=rfl;unfold HB Fa na Aa Ta db ic;simp only[hu,hm,hus,mz];obtain⟨bk,be⟩:=b;cases N==0
 .simp
 .by_cases k1:a.Kind=1<;>by_cases k2:bk=c.Kind<;>by_cases k3:be=c.Enum<;>simp[Bh,NF,Haa,k1,k2,k3,su,-Prod.exists]
  simp_all
theorem res2{op N:Int}{s:GSignature}{a b:GType}{u:Bool}(hm:Wl op=some u) (hr:db ⟨op,N⟩ s=some true) (hf:ic ⟨op,N⟩ s=some true) {t:GType}{ok:Bool}
 (hd:fj op a b=some (t,ok)) (hu:u=true\/N=0):Ta ⟨op,N⟩ [a,b] s=some (if ok=true then(t,0)else(⟨0,0⟩,8)):=by
 unfold Ta;simp only[hm,hr,hf,Bh,NF];rcases hu with rfl|rfl<;>cases ok<;>simp[hd]
theorem Kaa{op N:Int}{s:GSignature}{a b:GType}{u:Bool}(hm:Im op=some u) (h1:na ⟨op,N⟩ [a,b] s=(Aa op [a,b]).bind λx=>if x.2=false then some (⟨0,0⟩,8)else some (x.1,0)) {t:GType}{ok:Bool}
 (hd:Aa op [a,b]=some (t,ok)) (hu:u=true\/N=0):Fa ⟨op,N⟩ [a,b] s=some (if ok=true then(t,0)else(⟨0,0⟩,8)):=by
 unfold Fa
 grind
theorem o9{op N:Int}{s:GSignature}{a b:GType}(hop:(11<=op/\op<=24)\/(27<=op/\op<=30)) {t:GType}{ok:Bool}{t':GType}(hI:Aa op [a,b]=some (t',ok)) (hR:fj op a b=some (t,ok)) (ht:ok=true->t'=t/\ia t s.Enums=true) :
 HB ⟨op,N⟩ [a,b] s:=by
 have hu:=ya (op:=op) (by omega);have hm:=Sb (op:=op) (by omega);have hr:(14<=op/\op<=16)/\db ⟨op,N⟩ s=some (decide (0<=N)&&decide (N<=5))/\na ⟨op,N⟩ [a,b] s=(if(decide (0<=N)&&decide (N<=5))=true then(Aa op [a,b]).bind λx=>if x.2=false then some (⟨0,0⟩,8)else some (x.1,0)else some (⟨0,0⟩,3))\/
  ¬(14<=op/\op<=16)/\db ⟨op,N⟩ s=some true/\na ⟨op,N⟩ [a,b] s=((Aa op [a,b]).bind λx=>if x.2=false then some (⟨0,0⟩,8)else some (x.1,0)):=by
  clear hI hR ht hu hm;by_cases h:14<=op/\op<=16
  .refine .inl ⟨h,?_,?_⟩
   .grind[db]
   .unfold na Pf;simp only[Rx];rcases(by omega:op=14\/op=15\/op=16)with h|h|h<;>subst h<;>by_cases g1:0<=N<;>by_cases g2:N<=5<;>simp[g1,g2]
  .refine .inr ⟨h,?_,?_⟩
   .unfold db;rcases(by omega:op=11\/op=12\/op=13\/op=17\/op=18\/op=19\/op=20\/op=21\/op=22\/op=23\/op=24\/op=27\/op=28\/op=29\/op=30)with h|h|h|h|h|h|h|h|h|h|h|h|h|h|h<;>subst h<;>simp
   .unfold na;rcases(by omega:op=11\/op=12\/op=13\/op=17\/op=18\/op=19\/op=20\/op=21\/op=22\/op=23\/op=24\/op=27\/op=28\/op=29\/op=30)with h|h|h|h|h|h|h|h|h|h|h|h|h|h|h<;>subst h<;>simp
 have hf:ic ⟨op,N⟩ s=some true:=by
  unfold ic;rcases(by omega:op=11\/op=12\/op=13\/op=14\/op=15\/op=16\/op=17\/op=18\/op=19\/op=20\/op=21\/op=22\/op=23\/op=24\/op=27\/op=28\/op=29\/op=30)with h|h|h|h|h|h|h|h|h|h|h|h|h|h|h|h|h|h<;>subst h<;>simp
 have fin:∀(hz:Ib op=true\/N=0),db ⟨op,N⟩ s=some true->na ⟨op,N⟩ [a,b] s=((Aa op [a,b]).bind λx=>if x.2=false then some (⟨0,0⟩,8)else some (x.1,0))->HB ⟨op,N⟩ [a,b] s:=by
  intro hz h1 h2;unfold HB;rw[res2 hm h1 hf hR hz,Kaa hu h2 hI hz]
  grind
 rcases hr with⟨h,h1,h2⟩|⟨h,h1,h2⟩
 .have hus:Ib op=true:=by grind[Ib]
  by_cases hN:(decide (0<=N)&&decide (N<=5))=true
  .simp_all
  .rw[Oae]at hN;rw[hN]at h1;rw[hN,if_neg (by simp)]at h2;unfold HB Fa Ta
   simp_all
 .have hus:Ib op=false:=by grind[Ib]
  by_cases hN:N=0
  .simp_all
  .unfold HB Fa Ta
   simp_all
theorem qU{op N:Int}{s:GSignature}{a b:GType}(hop:(11<=op/\op<=24)\/(27<=op/\op<=30)) (ha:ia a s.Enums=true):HB ⟨op,N⟩ [a,b] s:=by
 have hz:∀k,1<=k->k<=5->a.Kind=k->a.Enum=0:=λk h1 h2 h=>GB ha (by omega);obtain⟨ak,ae⟩:=a;obtain⟨bk,be⟩:=b;simp only at hz;have hr:∃t t' ok,Aa op [⟨ak,ae⟩,⟨bk,be⟩]=some (t',ok)/\fj op ⟨ak,ae⟩ ⟨bk,be⟩=some (t,ok)/\(ok=true->t'=t/\ia t s.Enums=true):=by
  unfold Aa fj gh Vp xb;simp only[Bh,NF,Cg,Vt,Lw];rcases(by omega:op=11\/op=12\/op=13\/op=14\/op=15\/op=16\/op=17\/op=18\/op=19\/op=20\/op=21\/op=22\/op=23\/op=24\/op=27\/op=28\/op=29\/op=30)with h|h|h|h|h|h|h|h|h|h|h|h|h|h|h|h|h|h<;>subst h
  .by_cases k1:ak=bk/\ae=be
   .cases hn:Jr ak<;>simp[k1,hn,ha]
    all_goals grind
   .simp[k1]
  .by_cases k1:ak=bk/\ae=be
   .cases hn:Jr ak<;>simp[k1,hn,ha]
    all_goals grind
   .simp[k1]
  .by_cases k1:bk=2<;>by_cases k2:ak=2<;>by_cases k3:ak=3<;>simp[k1,k2,k3,FB,qM]
  .by_cases k1:bk=4<;>by_cases k2:ak=3<;>by_cases k3:ak=4<;>simp[k1,k2,k3,jW,qM]
  .by_cases k1:bk=2<;>by_cases k2:ak=2<;>by_cases k3:ak=3<;>by_cases k4:bk=3<;>simp[k1,k2,k3,k4,FB,qM,jW]
   all_goals simp_all
  .by_cases k1:ak=3<;>by_cases k2:bk=3<;>simp[k1,k2]
   simp_all
  .by_cases k1:ak=bk/\ae=be
   .cases hn:Jr ak<;>by_cases k5:ak=5<;>simp[k1,hn,k5,ha]
    all_goals grind
   .simp[k1]
  .by_cases k1:ak=bk/\ae=be
   .cases hn:Jr ak<;>by_cases k5:ak=5<;>simp[k1,hn,k5,ha]
    all_goals grind
   .simp[k1]
  .by_cases k1:ak=bk<;>by_cases k2:ae=be<;>simp[k1,k2,eE]
  .by_cases k1:ak=bk<;>by_cases k2:ae=be<;>simp[k1,k2,eE]
  .by_cases k1:ak=bk/\ae=be
   .cases hn:Jr ak<;>by_cases k5:ak=5<;>simp[k1,hn,k5,eE]
    all_goals grind[eE]
   .simp[k1]
  .by_cases k1:ak=bk/\ae=be
   .cases hn:Jr ak<;>by_cases k5:ak=5<;>simp[k1,hn,k5,eE]
    all_goals grind[eE]
   .simp[k1]
  .by_cases k1:ak=1<;>by_cases k2:bk=1<;>simp[k1,k2]
   grind
  .by_cases k1:ak=1<;>by_cases k2:bk=1<;>simp[k1,k2]
   grind
  .by_cases k1:ak=5<;>by_cases k2:bk=2<;>simp[k1,k2]
   simp_all
  .by_cases k1:ak=5<;>by_cases k2:bk=2<;>simp[k1,k2]
   simp_all
  .by_cases k1:ak=5<;>by_cases k2:bk=5<;>simp[k1,k2,FB]
  .by_cases k1:ak=5<;>by_cases k2:bk=5<;>simp[k1,k2,FB]
 obtain⟨t,t',ok,h1,h2,h3⟩:=hr
 grind[o9]
theorem pY{n:GNode}{ops:List GType}{s:GSignature}(hop:1<=n.Op/\n.Op<=39) (hN:Xa n) (hlen:(ops.length:Int)=kb n.Op) (hv:∀t∈ops,ia t s.Enums=true):HB n ops s:=by
 obtain⟨op,N⟩:=n;simp only at hop hlen;unfold kb at hlen;by_cases h0:(1<=op/\op<=9)\/(35<=op/\op<=39)
 .rw[if_pos h0]at hlen;obtain rfl:ops=[]:=gad (by omega);rcases(by omega:(1<=op/\op<=5)\/op=6\/op=7\/op=8\/op=9\/op=35\/(36<=op/\op<=39))with h|h|h|h|h|h|h
  .exact nU h rfl
  all_goals grind[G7,H7,I7,J7,nY,oU]
 rw[if_neg h0]at hlen;by_cases h1:op=10\/op=25\/(31<=op/\op<=34)
 .rw[if_pos h1]at hlen;obtain⟨a,rfl⟩:∃a,ops=[a]:=by
   match ops,hlen with
   |[a],_=>simp
  have ha:=hv a (by simp);rcases(by omega:(op=10\/op=25\/op=31\/op=32)\/op=33\/op=34)with h|h|h
  all_goals grind[pU,lY,mY]
 rw[if_neg h1]at hlen;by_cases h2:op=26
 .rw[if_pos h2]at hlen;obtain⟨a,b,c,rfl⟩:∃a b c,ops=[a,b,c]:=by
   match ops,hlen with
   |[a,b,c],_=>simp
  grind[kY]
 rw[if_neg h2,if_pos (by omega)]at hlen;obtain⟨a,b,rfl⟩:∃a b,ops=[a,b]:=by
  match ops,hlen with
  |[a,b],_=>simp
 grind[qU]
def va(e:List GNode) (i:Nat):GNode:=(e[i]?).getD ⟨0,0⟩
theorem qg{e:List GNode}{i:Nat}(h:i<e.length):e[i]=va e i:=by
 grind[va]
def Re(e:List GNode):Nat->List Int×List Int
 |0=>([],[])
 |i+1=>
  let p:=Re e i
  let a:=(kb (va e i).Op).toNat
  let f:=if 0<a then(p.2[p.2.length-a]?).getD 0 else(i:Int)
  (p.1++[f],p.2.take (p.2.length-a)++[f])
theorem AB(e:List GNode):∀i,(Re e i).1.length=i
 |0=>rfl
 |i+1=>by simp[Re,AB e i]
def Ew(e:List GNode) (i:Nat):Option (List Int×Int×Int):=
 if kb (va e i).Op<0 then some ([],(i:Int),2)
 else if((Re e i).2.length:Int)<kb (va e i).Op then some ([],(i:Int),5)
 else if 12<(Re e (i+1)).2.length then some ([],(i:Int),16)else none
def Jn(e:List GNode):List Int×Int×Int:=
 if 48<e.length then([],0,4)else if e.length=0 then([],0,5)
 else match ff (Ew e) e.length with
  |some v=>v
  |none=>if 1<(Re e e.length).2.length then([],(e.length:Int),4)else((Re e e.length).1,0,0)
theorem ep{e:List GNode}{i:Nat}(h:∀j,j<i->Ew e j=none):(Re e i).2.length<=12:=by
 cases i with
 |zero=>simp[Re]
 |succ i=>
  have:=h i (by omega)
  grind[Ew]
theorem qZ{p:List Int}{i n:Nat}{f:Int}(hp:p.length=i) (h:i<n):(p++Nac (n-i) 0).set i f=p++[f]++Nac (n-(i+1)) 0:=by
 obtain⟨k,hk⟩:∃k,n-i=k+1:=⟨n-i-1,by omega⟩;have hk':n-(i+1)=k:=by omega
 simp_all[List.replicate_succ]
theorem FO{p r:List Int}{i:Nat}{f:Int}(hp:p.length=i):(p++[f]++r)[i]?=some f:=by
 simp_all
theorem vn(e:List GNode):Tj e=some (Jn e):=by
 unfold Tj Jn;by_cases h48:48<e.length
 .grind
 rw[if_neg (by omega),if_neg h48];by_cases h0:e.length=0
 .simp_all
 rw[if_neg (by omega),if_neg h0,Sw (by omega) (by omega),Jac];have hl:da (Qi e) (Nac e.length 0,([]:List Int),0)=some (fc ((Re e e.length).1,(Re e e.length).2) (ff (Ew e) e.length)):=by
  refine bc (λi=>((Re e i).1++Nac (e.length-i) 0,(Re e i).2,(i:Int))) (Ew e) e.length _ (λi hi hf=>?_) (λ_=>?_) ?_
  .have hs:=ep hf;have hl:=AB e i;unfold Qi Ew;simp only;rw[if_pos (by omega),Ba hi,Jac,qg hi,Oi,Jac];by_cases ha:kb (va e i).Op<0
   .rw[if_pos ha,if_pos ha];rfl
   rw[if_neg ha,if_neg ha];by_cases hb:((Re e i).2.length:Int)<kb (va e i).Op
   .rw[if_pos hb,if_pos hb];rfl
   rw[if_neg hb,if_neg hb];obtain⟨a,ha'⟩:∃a:Nat,kb (va e i).Op=a:=⟨(kb (va e i).Op).toNat,by omega⟩;have hst:Re e (i+1)=((Re e i).1++[if 0<a then((Re e i).2[(Re e i).2.length-a]?).getD 0 else(i:Int)],(Re e i).2.take ((Re e i).2.length-a)++[if 0<a then((Re e i).2[(Re e i).2.length-a]?).getD 0 else(i:Int)]):=by
    grind[Re]
   have hsub:ca .i64 (((Re e i).2.length:Int)-(a:Int))=(((Re e i).2.length-a:Nat):Int):=by
    grind[wid]
   rw[ha',hst,hsub];generalize hS:(Re e i).2=sk at *;generalize (Re e i).1=st at *;rw[ha']at hb;rw[Ba (i:=i) (by grind),Jac,Vy (by grind),Jac,qZ hl hi,Tu (by omega)];by_cases h0a:0<a
   .have hk:sk.length-a<sk.length:=by omega
    rw[if_pos (by omega),if_pos h0a,Ba hk,Jac,Ba (i:=i) (by simp_all),Jac,Vy (by simp_all),Jac];have hset:(st++[(i:Int)]++Nac (e.length-(i+1)) 0).set i sk[sk.length-a]=st++[sk[sk.length-a]]++Nac (e.length-(i+1)) 0:=by
     simp_all
    rw[hset,Jac,Jac,Lac hk,Qae,wL,FO hl,Jac];rw[ui (by grind),Jac];by_cases hd:12<(sk.take (sk.length-a)++[sk[sk.length-a]]).length
    .grind
    .rw[if_neg (by omega),if_neg hd,wa (by omega)];rfl
   .rw[if_neg (by omega),if_neg h0a,Jac,Jac,wL,FO hl,Jac];rw[ui (by grind),Jac];by_cases hd:12<(sk.take (sk.length-a)++[(i:Int)]).length
    .rw[if_pos (by omega),if_pos hd];rfl
    .rw[if_neg (by omega),if_neg hd,wa (by omega)];rfl
  all_goals grind[Qi,Re]
 grind[fc]
theorem Ou(e:List GNode):Eg e=some (Jn e):=by
 unfold Eg Jn;by_cases h48:48<e.length
 .grind
 rw[if_neg (by omega),if_neg h48];by_cases h0:e.length=0
 .simp_all
 rw[if_neg (by omega),if_neg h0];have hl:da (Oh e) (([]:List Int),([]:List Int),0)=some (fc ((Re e e.length).1,(Re e e.length).2) (ff (Ew e) e.length)):=by
  refine bc (λi=>((Re e i).1,(Re e i).2,(i:Int))) (Ew e) e.length _ (λi hi hf=>?_) (λ_=>?_)
  .have hs:=ep hf;have hl:=AB e i;unfold Oh Ew;simp only;rw[if_pos (by omega),Ba hi,Jac,qg hi,dv,Jac];by_cases ha:kb (va e i).Op<0
   .rw[if_pos ha,if_pos ha];rfl
   rw[if_neg ha,if_neg ha];by_cases hb:((Re e i).2.length:Int)<kb (va e i).Op
   .rw[if_pos hb,if_pos hb];rfl
   rw[if_neg hb,if_neg hb];obtain⟨a,ha'⟩:∃a:Nat,kb (va e i).Op=a:=⟨(kb (va e i).Op).toNat,by omega⟩;have hst:Re e (i+1)=((Re e i).1++[if 0<a then((Re e i).2[(Re e i).2.length-a]?).getD 0 else(i:Int)],(Re e i).2.take ((Re e i).2.length-a)++[if 0<a then((Re e i).2[(Re e i).2.length-a]?).getD 0 else(i:Int)]):=by
    grind[Re]
   have hsub:ca .i64 (((Re e i).2.length:Int)-(a:Int))=(((Re e i).2.length-a:Nat):Int):=by
    grind[wid]
   rw[ha',hst,hsub];generalize hS:(Re e i).2=sk at *;generalize (Re e i).1=st at *;rw[ha']at hb;by_cases h0a:0<a
   .have hk:sk.length-a<sk.length:=by omega
    rw[if_pos (by omega),if_pos h0a,Ba hk,Jac,Tu (by omega),Jac,Jac,Lac hk,Qae];simp only;rw[ui (by grind),Jac,ui (by grind),Jac];by_cases hd:12<(sk.take (sk.length-a)++[sk[sk.length-a]]).length
    .grind
    .rw[if_neg (by omega),if_neg hd,wa (by omega)];rfl
   .have ha0:a=0:=by omega
    subst ha0;rw[if_neg (by omega),if_neg h0a,Jac];simp only[Nat.sub_zero,dae];rw[ui (by grind),Jac,ui (by grind),Jac];by_cases hd:12<(sk++[(i:Int)]).length
    .rw[if_pos (by omega),if_pos hd];rfl
    .rw[if_neg (by omega),if_neg hd,wa (by omega)];rfl
  grind[Oh]
 grind[fc]
def IB(n:GNode) (ops:List GType) (s:GSignature):Prop:=∃r,Fa n ops s=some r/\(r.2=0->ia r.1 s.Enums=true)
theorem jU{n:GNode}{s:GSignature}{k:Int}(hk:1<=k/\k<=5) (hn:n.Op=k):IB n [] s:=by
 have hu:=ya (op:=n.Op) (by omega);have hus:Ib n.Op=true:=by grind[Ib]
 have hv:ia ⟨n.Op,0⟩ s.Enums=true:=jO (by omega) (by omega);have hI:Fa n [] s=some (if(cg ⟨n.Op,0⟩ s.Enums).1<=n.N/\n.N<=(cg ⟨n.Op,0⟩ s.Enums).2 then(⟨n.Op,0⟩,0)else(⟨0,0⟩,3)):=by
  grind[Db,cg,na,Fa,bg]
 refine⟨_,hI,?_⟩
 grind
theorem C7{N:Int}{s:GSignature}(hN:Xa ⟨6,N⟩):IB ⟨6,N⟩ [] s:=by
 have w:=kK (n:=N) (k:=16) (by omega) hN;have hu:=ya (op:=6) (by omega);have hus:Ib 6=true:=rfl;unfold IB Fa na Xg;simp only[w,hu,hus,Ht];by_cases h0:0<=N
 .have hd:0<=sad N 16:=Laf h0 (by omega);by_cases h1:sad N 16<(s.Enums.length:Int)
  .rw[Fu ⟨Kaf,[]⟩ hd h1];have hv:ia ⟨6,sad N 16⟩ s.Enums=true:=by grind[ia]
   generalize (s.Enums[(sad N 16).toNat]?).getD ⟨Kaf,[]⟩=m;have e1:¬N<0:=by omega
   have e2:¬(s.Enums.length:Int)<=sad N 16:=by omega
   by_cases h2:zad N 16<(m.Members.length:Int)
   .have e3:¬(m.Members.length:Int)<=zad N 16:=by omega
    simp[h0,h1,h2,hv,e1,e2,e3,su,-Prod.exists]
   .have e3:(m.Members.length:Int)<=zad N 16:=by omega
    simp[h0,h1,h2,hv,e1,e2,e3,su,-Prod.exists]
  .have e1:¬N<0:=by omega
   have e2:(s.Enums.length:Int)<=sad N 16:=by omega
   simp[h0,h1,e1,e2,su,-Prod.exists]
 simp_all
theorem D7{N:Int}{s:GSignature}:IB ⟨7,N⟩ [] s:=by
 have hu:=ya (op:=7) (by omega);have hus:Ib 7=true:=rfl;unfold IB Fa na Qb;simp only[hu,hus,Ka,Ht];by_cases h0:0<=N
 .have e1:¬N<0:=by omega
  by_cases h1:N<(s.Inputs.length:Int)
  .rw[Fu ⟨0,0⟩ h0 h1];generalize (s.Inputs[N.toNat]?).getD ⟨0,0⟩=t;obtain⟨tk,te⟩:=t;have e2:¬(s.Inputs.length:Int)<=N:=by omega
   cases hv:ia ⟨tk,te⟩ s.Enums<;>simp[h0,h1,hv,e1,e2,su,-Prod.exists]
  simp_all
 simp_all
theorem E7{N:Int}{s:GSignature}:IB ⟨8,N⟩ [] s:=by
 have hu:=ya (op:=8) (by omega);have hus:Ib 8=true:=rfl;unfold IB Fa na Qb;simp only[hu,hus,Ka,Ht];by_cases h0:0<=N
 .have e1:¬N<0:=by omega
  by_cases h1:N<(s.Defs.length:Int)
  .rw[Fu ⟨0,0⟩ h0 h1];generalize (s.Defs[N.toNat]?).getD ⟨0,0⟩=t;obtain⟨tk,te⟩:=t;have e2:¬(s.Defs.length:Int)<=N:=by omega
   cases hv:ia ⟨tk,te⟩ s.Enums<;>simp[h0,h1,hv,e1,e2,su,-Prod.exists]
  simp_all
 simp_all
theorem F7{N:Int}{s:GSignature}:IB ⟨9,N⟩ [] s:=by
 have hu:=ya (op:=9) (by omega);have hus:Ib 9=false:=rfl;unfold IB Fa na;simp only[hu,hus,mz];cases N==0<;>simp[vt_5,su,-Prod.exists]
theorem jY{N:Int}{s:GSignature}:IB ⟨35,N⟩ [] s:=by
 have hu:=ya (op:=35) (by omega);have hus:Ib 35=false:=rfl;unfold IB Fa na Dg;simp only[hu,hus,mz];cases hm:s.HasMembers<;>cases N==0<;>simp[FB,su,-Prod.exists]
theorem kU{op N:Int}{s:GSignature}(h:36<=op/\op<=39):IB ⟨op,N⟩ [] s:=by
 have hu:=ya (op:=op) (by omega);have hus:Ib op=true:=by grind[Ib]
 unfold IB Fa na Dg Qb;simp only[hu,hus,Ka,Cg,Ht];cases hM:s.HasMembers
 .rcases(by omega:op=36\/op=37\/op=38\/op=39)with h|h|h|h<;>subst h<;>simp[hM,su,-Prod.exists]
 .by_cases h0:0<=N
  .have e1:¬N<0:=by omega
   by_cases h1:N<(s.MemberDefs.length:Int)
   .rw[Fu ⟨0,0⟩ h0 h1];generalize (s.MemberDefs[N.toNat]?).getD ⟨0,0⟩=t;obtain⟨tk,te⟩:=t;have e2:¬(s.MemberDefs.length:Int)<=N:=by omega
    cases hv:ia ⟨tk,te⟩ s.Enums
    .rcases(by omega:op=36\/op=37\/op=38\/op=39)with h|h|h|h<;>subst h<;>simp[hM,h0,h1,hv,e1,e2,su,-Prod.exists]
    .rcases(by omega:op=36\/op=37\/op=38\/op=39)with h|h|h|h<;>subst h<;>simp only[hM,h0,h1,hv,e1,e2,Jac,if_true,if_false,not_true_eq_false,not_false_eq_true,decide_false,decide_true,Tac,iad,Uac,beq_self_eq_true,Wac]
     .by_cases k2:tk=2<;>by_cases k3:tk=3<;>simp[k2,k3,hv,su,-Prod.exists]<;>simp_all
     .by_cases k1:tk=1<;>simp[k1,hv,su,-Prod.exists]<;>simp_all
     .by_cases k1:tk=1<;>simp[k1,hv,su,-Prod.exists]<;>simp_all
     .cases Jr tk<;>by_cases k5:tk=5<;>simp[k5,hv,su,-Prod.exists]<;>simp_all
   .have e2:(s.MemberDefs.length:Int)<=N:=by omega
    rcases(by omega:op=36\/op=37\/op=38\/op=39)with h|h|h|h<;>subst h<;>simp[hM,h0,h1,e1,e2,su,-Prod.exists]
  .have e1:N<0:=by omega
   rcases(by omega:op=36\/op=37\/op=38\/op=39)with h|h|h|h<;>subst h<;>simp[hM,h0,e1,su,-Prod.exists]
theorem lU{op N:Int}{s:GSignature}{a:GType}(hop:op=10\/op=25\/op=31\/op=32) (ha:ia a s.Enums=true):IB ⟨op,N⟩ [a] s:=by
 have hu:=ya (op:=op) (by omega);have hus:Ib op=false:=by grind[Ib]
 unfold IB Fa na Aa;simp only[hu,hus,mz,Cg];obtain⟨ak,ae⟩:=a;rcases hop with h|h|h|h<;>subst h<;>cases N==0
 .simp
 .cases hn:Jr ak<;>simp[Bh,hn,ha,su,-Prod.exists]
 .simp
 .by_cases k1:ak=1
  .subst k1;have:=GB ha (by simp)
   simp_all[Bh]
  simp_all[Bh]
 .simp
 .by_cases k1:ak=5<;>simp[Bh,k1,FB,su,-Prod.exists]
 .simp
 .by_cases k1:ak=5<;>simp[Bh,k1,FB,su,-Prod.exists]
theorem gY{N:Int}{s:GSignature}{a:GType}(ha:ia a s.Enums=true):IB ⟨33,N⟩ [a] s:=by
 have hu:=ya (op:=33) (by omega);have hus:Ib 33=true:=rfl;unfold IB Fa na Ah;simp only[hu,hus,Ka,Ht];by_cases h0:0<=N
 .have e1:¬N<0:=by omega
  by_cases h1:N<(s.Tables.length:Int)
  .obtain⟨t,ht⟩:∃t,idx s.Tables N=some t:=⟨_,Si h0 h1⟩;have e2:¬(s.Tables.length:Int)<=N:=by omega
   cases hk:ia t.Key s.Enums
   .simp[Bh,ht,h0,h1,e1,e2,hk,su,-Prod.exists]
   .cases hv:ia t.Value s.Enums
    .simp[Bh,ht,h0,h1,e1,e2,hk,hv,su,-Prod.exists]
    .by_cases k1:a.Kind=t.Key.Kind<;>by_cases k2:a.Enum=t.Key.Enum<;>simp[Bh,ht,h0,h1,e1,e2,hk,hv,k1,k2,su,-Prod.exists]
  simp_all[Bh]
 .have e1:N<0:=by omega
  have e3:¬N<(s.Tables.length:Int)\/N<(s.Tables.length:Int):=by omega
  simp[Bh,h0,e1,su,-Prod.exists]
theorem iY{N:Int}{s:GSignature}{a:GType}(hN:Xa ⟨34,N⟩) (ha:ia a s.Enums=true):IB ⟨34,N⟩ [a] s:=by
 have hu:=ya (op:=34) (by omega);have hus:Ib 34=true:=rfl;have w:=kK (n:=N) (k:=8) (by omega) hN;unfold IB Fa na Ah Pf;simp only[hu,hus,Ka,Ht,w];by_cases h0:0<=N
 .have e1:¬N<0:=by omega
  have hd:0<=sad N 8:=Laf h0 (by omega);have hmod:0<=zad N 8:=Oag _ h0;have e3:¬sad N 8<0:=by omega
  by_cases h5:zad N 8<=5
  .by_cases h1:sad N 8<(s.Tables.length:Int)
   .obtain⟨t,ht⟩:∃t,idx s.Tables (sad N 8)=some t:=⟨_,Si hd h1⟩;have e2:¬(s.Tables.length:Int)<=sad N 8:=by omega
    obtain⟨_,⟨kk,ke⟩,⟨vk,ve⟩,_⟩:=t;obtain⟨ak,ae⟩:=a;simp only[Bh,ht,h0,h1,e1,e2,e3,hmod,h5,Jac,if_true,if_false,not_true_eq_false,not_false_eq_true,decide_false,decide_true,Tac,iad,Uac,beq_self_eq_true,Wac,Cae,maf];by_cases hk3:kk=3
    .subst hk3;by_cases hke:ke=0
     .subst hke;rw[show ia ⟨3,0⟩ s.Enums=true from qM];by_cases hv4:vk=4
      .subst hv4;by_cases hve:ve=0
       .subst hve;rw[show ia ⟨4,0⟩ s.Enums=true from jW];by_cases ha3:ak=3
        .subst ha3;have:=GB ha (by simp)
         simp_all
        simp_all
       simp_all[ia]
      .cases ia ⟨vk,ve⟩ s.Enums<;>by_cases ha3:ak=3<;>by_cases hae:ae=0<;>simp[ha3,hae,hv4,su,-Prod.exists]
     simp_all[ia]
    .cases ia ⟨kk,ke⟩ s.Enums<;>cases ia ⟨vk,ve⟩ s.Enums<;>by_cases ha3:ak=3<;>by_cases hak:ak=kk<;>by_cases hae:ae=ke<;>simp_all[su,-Prod.exists]
   simp_all[Bh]
  simp_all[Bh]
 simp_all[Bh]
theorem fY{N:Int}{s:GSignature}{a b c:GType}(hb:ia b s.Enums=true):IB ⟨26,N⟩ [a,b,c] s:=by
 have hu:=ya (op:=26) (by omega);have hus:Ib 26=false:=rfl;unfold IB Fa na Aa;simp only[hu,hus,mz];obtain⟨bk,be⟩:=b;cases N==0
 .simp
 .by_cases k1:a.Kind=1<;>by_cases k2:bk=c.Kind<;>by_cases k3:be=c.Enum<;>simp[Bh,NF,Haa,k1,k2,k3,su,-Prod.exists]
  simp_all
theorem TZ{op N:Int}{s:GSignature}{a b:GType}(hop:(11<=op/\op<=24)\/(27<=op/\op<=30)) {ok:Bool}{t':GType}(hI:Aa op [a,b]=some (t',ok)) (ht:ok=true->ia t' s.Enums=true) :
 IB ⟨op,N⟩ [a,b] s:=by
 have hu:=ya (op:=op) (by omega);have hr:(14<=op/\op<=16)/\na ⟨op,N⟩ [a,b] s=(if(decide (0<=N)&&decide (N<=5))=true then(Aa op [a,b]).bind λx=>if x.2=false then some (⟨0,0⟩,8)else some (x.1,0)else some (⟨0,0⟩,3))\/
  ¬(14<=op/\op<=16)/\na ⟨op,N⟩ [a,b] s=((Aa op [a,b]).bind λx=>if x.2=false then some (⟨0,0⟩,8)else some (x.1,0)):=by
  clear hI ht hu;by_cases h:14<=op/\op<=16
  .refine .inl ⟨h,?_⟩
   .unfold na Pf;simp only[Rx];rcases(by omega:op=14\/op=15\/op=16)with h|h|h<;>subst h<;>by_cases g1:0<=N<;>by_cases g2:N<=5<;>simp[g1,g2]
  .refine .inr ⟨h,?_⟩
   .unfold na;rcases(by omega:op=11\/op=12\/op=13\/op=17\/op=18\/op=19\/op=20\/op=21\/op=22\/op=23\/op=24\/op=27\/op=28\/op=29\/op=30)with h|h|h|h|h|h|h|h|h|h|h|h|h|h|h<;>subst h<;>simp
 have fin:∀(hz:Ib op=true\/N=0),na ⟨op,N⟩ [a,b] s=((Aa op [a,b]).bind λx=>if x.2=false then some (⟨0,0⟩,8)else some (x.1,0))->IB ⟨op,N⟩ [a,b] s:=by
  intro hz h2;unfold IB;rw[Kaa hu h2 hI hz]
  grind
 rcases hr with⟨h,h2⟩|⟨h,h2⟩
 .have hus:Ib op=true:=by grind[Ib]
  by_cases hN:(decide (0<=N)&&decide (N<=5))=true
  .simp_all
  .rw[Oae]at hN;rw[hN,if_neg (by simp)]at h2;unfold IB Fa
   simp_all
 .have hus:Ib op=false:=by grind[Ib]
  by_cases hN:N=0
  .simp_all
  .unfold IB Fa
   simp_all
theorem mU{op N:Int}{s:GSignature}{a b:GType}(hop:(11<=op/\op<=24)\/(27<=op/\op<=30)) (ha:ia a s.Enums=true):IB ⟨op,N⟩ [a,b] s:=by
 have hz:∀k,1<=k->k<=5->a.Kind=k->a.Enum=0:=λk h1 h2 h=>GB ha (by omega);obtain⟨ak,ae⟩:=a;obtain⟨bk,be⟩:=b;simp only at hz;have hr:∃t' ok,Aa op [⟨ak,ae⟩,⟨bk,be⟩]=some (t',ok)/\(ok=true->ia t' s.Enums=true):=by
  unfold Aa gh;simp only[Bh,NF,Cg];rcases(by omega:op=11\/op=12\/op=13\/op=14\/op=15\/op=16\/op=17\/op=18\/op=19\/op=20\/op=21\/op=22\/op=23\/op=24\/op=27\/op=28\/op=29\/op=30)with h|h|h|h|h|h|h|h|h|h|h|h|h|h|h|h|h|h<;>subst h
  .by_cases k1:ak=bk/\ae=be
   .cases hn:Jr ak<;>simp[k1,hn,ha]
    all_goals grind
   .simp[k1]
  .by_cases k1:ak=bk/\ae=be
   .cases hn:Jr ak<;>simp[k1,hn,ha]
    all_goals grind
   .simp[k1]
  .by_cases k1:bk=2<;>by_cases k2:ak=2<;>by_cases k3:ak=3<;>simp[k1,k2,k3,FB,qM]
  .by_cases k1:bk=4<;>by_cases k2:ak=3<;>by_cases k3:ak=4<;>simp[k1,k2,k3,jW,qM]
  .by_cases k1:bk=2<;>by_cases k2:ak=2<;>by_cases k3:ak=3<;>by_cases k4:bk=3<;>simp[k1,k2,k3,k4,FB,qM,jW]
   all_goals simp_all
  .by_cases k1:ak=3<;>by_cases k2:bk=3<;>simp[k1,k2]
   simp_all
  .by_cases k1:ak=bk/\ae=be
   .cases hn:Jr ak<;>by_cases k5:ak=5<;>simp[k1,hn,k5,ha]
    all_goals grind
   .simp[k1]
  .by_cases k1:ak=bk/\ae=be
   .cases hn:Jr ak<;>by_cases k5:ak=5<;>simp[k1,hn,k5,ha]
    all_goals grind
   .simp[k1]
  .by_cases k1:ak=bk<;>by_cases k2:ae=be<;>simp[k1,k2,eE]
  .by_cases k1:ak=bk<;>by_cases k2:ae=be<;>simp[k1,k2,eE]
  .by_cases k1:ak=bk/\ae=be
   .cases hn:Jr ak<;>by_cases k5:ak=5<;>simp[k1,hn,k5,eE]
    all_goals grind[eE]
   .simp[k1]
  .by_cases k1:ak=bk/\ae=be
   .cases hn:Jr ak<;>by_cases k5:ak=5<;>simp[k1,hn,k5,eE]
    all_goals grind[eE]
   .simp[k1]
  .by_cases k1:ak=1<;>by_cases k2:bk=1<;>simp[k1,k2]
   grind
  .by_cases k1:ak=1<;>by_cases k2:bk=1<;>simp[k1,k2]
   grind
  .by_cases k1:ak=5<;>by_cases k2:bk=2<;>simp[k1,k2]
   simp_all
  .by_cases k1:ak=5<;>by_cases k2:bk=2<;>simp[k1,k2]
   simp_all
  .by_cases k1:ak=5<;>by_cases k2:bk=5<;>simp[k1,k2,FB]
  .by_cases k1:ak=5<;>by_cases k2:bk=5<;>simp[k1,k2,FB]
 obtain⟨t',ok,h1,h3⟩:=hr
 grind[TZ]
theorem WO{n:GNode}{ops:List GType}{s:GSignature}(hop:1<=n.Op/\n.Op<=39) (hN:Xa n) (hlen:(ops.length:Int)=kb n.Op) (hv:∀t∈ops,ia t s.Enums=true):IB n ops s:=by
 obtain⟨op,N⟩:=n;simp only at hop hlen;unfold kb at hlen;by_cases h0:(1<=op/\op<=9)\/(35<=op/\op<=39)
 .rw[if_pos h0]at hlen;obtain rfl:ops=[]:=gad (by omega);rcases(by omega:(1<=op/\op<=5)\/op=6\/op=7\/op=8\/op=9\/op=35\/(36<=op/\op<=39))with h|h|h|h|h|h|h
  .exact jU h rfl
  all_goals grind[C7,D7,E7,F7,jY,kU]
 rw[if_neg h0]at hlen;by_cases h1:op=10\/op=25\/(31<=op/\op<=34)
 .rw[if_pos h1]at hlen;obtain⟨a,rfl⟩:∃a,ops=[a]:=by
   match ops,hlen with
   |[a],_=>simp
  have ha:=hv a (by simp);rcases(by omega:(op=10\/op=25\/op=31\/op=32)\/op=33\/op=34)with h|h|h
  all_goals grind[lU,gY,iY]
 rw[if_neg h1]at hlen;by_cases h2:op=26
 .rw[if_pos h2]at hlen;obtain⟨a,b,c,rfl⟩:∃a b c,ops=[a,b,c]:=by
   match ops,hlen with
   |[a,b,c],_=>simp
  grind[fY]
 rw[if_neg h2,if_pos (by omega)]at hlen;obtain⟨a,b,rfl⟩:∃a b,ops=[a,b]:=by
  match ops,hlen with
  |[a,b],_=>simp
 grind[mU]
def Pb(e:List GNode) (i:Nat):Nat:=(kb (va e i).Op).toNat
noncomputable def Yt(e:List GNode) (s:GSignature) (st:List GType) (i:Nat):GType×Int:=(Fa (va e i) (st.drop (st.length-Pb e i)) s).getD (⟨0,0⟩,0)
noncomputable def Ho(e:List GNode) (s:GSignature):Nat->List GType
 |0=>[]
 |i+1=>(Ho e s i).take ((Ho e s i).length-Pb e i)++[(Yt e s (Ho e s i) i).1]
noncomputable def ku(e:List GNode) (s:GSignature) (i:Nat):Option (GType×Int×Int):=
 if(Yt e s (Ho e s i) i).2=0 then none else some (⟨0,0⟩,(i:Int),(Yt e s (Ho e s i) i).2)
noncomputable def uo(e:List GNode) (s:GSignature):GType×Int×Int:=
 if(Jn e).2.2=0 then(match ff (ku e s) e.length with|some v=>v|none=>((Ho e s e.length)[0]?.getD ⟨0,0⟩,0,0))else(⟨0,0⟩,(Jn e).2.1,(Jn e).2.2)
structure Wst (e:List GNode):Prop where
 pos:0<e.length
 le:e.length<=48
 err:∀i,i<e.length->Ew e i=none
 one:(Re e e.length).2.length<=1
theorem nK{e:List GNode}(h:(Jn e).2.2=0):Wst e:=by
 unfold Jn at h;split at h
 .grind
 split at h
 .grind
 rename_i h48 h0;split at h
 .grind[Ew,Sa]
 .rename_i hn;split at h
  .grind
  .exact⟨by omega,by omega,Zb.1 hn,by omega⟩
theorem Wst.ar{e:List GNode}(h:Wst e) {i:Nat}(hi:i<e.length):0<=kb (va e i).Op/\Pb e i<=(Re e i).2.length/\(1<=(va e i).Op/\(va e i).Op<=39):=by
 have:=h.err i hi
 grind[Ew,Pb,PB]
theorem WG{e:List GNode}{i:Nat}:(Re e (i+1)).2.length=(Re e i).2.length-Pb e i+1:=by
 simp[Re,Pb]
theorem fU{e:List GNode}(hN:∀n∈e,Xa n) {i:Nat}(hi:i<e.length):Xa (va e i):=by
 rw[←qg hi];simp_all
theorem dr{e:List GNode}{s:GSignature}(h:Wst e) (hN:∀n∈e,Xa n):∀i,i<=e.length->(∀j,j<i->ku e s j=none)->(Ho e s i).length=(Re e i).2.length/\∀t∈Ho e s i,ia t s.Enums=true
 |0,_,_=>by simp[Ho,Re]
 |i+1,hi,ht=>by
  obtain⟨h1,h2⟩:=dr h hN i (by omega) λj hj=>ht j (by omega);obtain⟨a1,a2,a3⟩:=h.ar (i:=i) (by omega);refine⟨by grind[Ho,WG],?_⟩;intro t hm;simp only[Ho,List.mem_append,xad]at hm;rcases hm with hm|rfl
  .grind
  .obtain⟨r,hr,hv⟩:=WO (n:=va e i) (ops:=(Ho e s i).drop ((Ho e s i).length-Pb e i)) (s:=s) a3 (fU hN (by omega)) (by grind[Pb]) (λt ht=>h2 t (laf ht));have hz:=ht i (by omega)
   grind[ku,Yt]
theorem TA{e:List GNode}{s:GSignature}(h:Wst e) (hN:∀n∈e,Xa n) {i:Nat}(hi:i<e.length) (ht:∀j,j<i->ku e s j=none) :
 Fa (va e i) ((Ho e s i).drop ((Ho e s i).length-Pb e i)) s=some (Yt e s (Ho e s i) i):=by
 obtain⟨h1,h2⟩:=dr h hN i (by omega) ht;obtain⟨a1,a2,a3⟩:=h.ar hi;obtain⟨r,hr,hv⟩:=WO (n:=va e i) (ops:=(Ho e s i).drop ((Ho e s i).length-Pb e i)) (s:=s) a3 (fU hN hi) (by grind[Pb]) (λt ht=>h2 t (laf ht))
 grind[Yt]
theorem oY{e:List GNode}{s:GSignature}(h:Wst e) (hN:∀n∈e,Xa n) {i:Nat}(hi:i<e.length) (ht:∀j,j<i->ku e s j=none) :
 Fa (va e i) ((Ho e s i).drop ((Ho e s i).length-Pb e i)) s=some (Yt e s (Ho e s i) i)/\Ta (va e i) ((Ho e s i).drop ((Ho e s i).length-Pb e i)) s=some (Yt e s (Ho e s i) i):=by
 obtain⟨h1,h2⟩:=dr h hN i (by omega) ht;obtain⟨a1,a2,a3⟩:=h.ar hi;obtain⟨e1,r,hr,hv⟩:=pY (n:=va e i) (ops:=(Ho e s i).drop ((Ho e s i).length-Pb e i)) (s:=s) a3 (fU hN hi) (by grind[Pb]) (λt ht=>h2 t (laf ht))
 grind[TA]
theorem Sx{e:List GNode}(hN:∀n∈e,Xa n) (s:GSignature):xn e s=some (uo e s):=by
 unfold xn uo;rw[Ou,Jac];by_cases h0:(Jn e).2.2=0
 .rw[if_neg (by omega),if_pos h0];have hw:=nK h0;have hl:da (Kl e s) (([]:List GType),0)=some (fc (Ho e s e.length) (ff (ku e s) e.length)):=by
   refine bc (λi=>(Ho e s i,(i:Int))) (ku e s) e.length _ (λi hi ht=>?_) (λ_=>?_)
   .obtain⟨n1,n2⟩:=oY hw hN hi ht;obtain⟨h1,h2⟩:=dr hw hN i (by omega) ht;obtain⟨a1,a2,a3⟩:=hw.ar hi;have hle:=hw.le;have h12:=ep (e:=e) (i:=i) λj hj=>hw.err j (by omega);unfold Kl ku;simp only;have hsub:ca .i64 (((Ho e s i).length:Int)-kb (va e i).Op)=(((Ho e s i).length-Pb e i:Nat):Int):=by
     grind[Pb,wid]
    rw[if_pos (by omega),Ba hi,Jac,qg hi,dv,Jac,hsub,Z1 (by omega),Jac,n2,Jac];by_cases hz:(Yt e s (Ho e s i) i).2=0
    .rw[if_neg (by omega),if_pos hz,Tu (by omega),Jac,ui (by grind),Jac,wa (by omega)];rfl
    .rw[if_pos hz,if_neg hz];rfl
   grind[Kl]
  rw[hl]
  cases hf:ff (ku e s) e.length with
  |some v=>rfl
  |none=>
   obtain⟨h1,h2⟩:=dr (s:=s) hw hN e.length (by omega) (Zb.1 hf);have:0<(Ho e s e.length).length:=by
    rw[h1];obtain⟨k,hk⟩:∃k,e.length=k+1:=⟨e.length-1,by have:=hw.pos;omega⟩
    grind[WG]
   simp only[fc,Jac];rw[show(0:Int)=((0:Nat):Int)from rfl,Ba this,Jac,Lac this];rfl
 simp_all
theorem lz{e:List GNode}(hN:∀n∈e,Xa n) (s:GSignature):bp e s=some (uo e s):=by
 unfold bp uo;rw[vn,Jac];by_cases h0:(Jn e).2.2=0
 .rw[if_neg (by omega),if_pos h0];have hw:=nK h0;have hl:da (Hm e s) (([]:List GType),0)=some (fc (Ho e s e.length) (ff (ku e s) e.length)):=by
   refine bc (λi=>(Ho e s i,(i:Int))) (ku e s) e.length _ (λi hi ht=>?_) (λ_=>?_)
   .have n1:=TA hw hN hi ht;obtain⟨h1,h2⟩:=dr hw hN i (by omega) ht;obtain⟨a1,a2,a3⟩:=hw.ar hi;have hle:=hw.le;have h12:=ep (e:=e) (i:=i) λj hj=>hw.err j (by omega);unfold Hm ku;simp only;have hsub:ca .i64 (((Ho e s i).length:Int)-kb (va e i).Op)=(((Ho e s i).length-Pb e i:Nat):Int):=by
     grind[Pb,wid]
    rw[if_pos (by omega),Ba hi,Jac,qg hi];unfold Fa at n1;rw[ya a3]at n1⊢;have hj:(if¬(va e i).N=0 then(some (Ib (va e i).Op)).bind λx8=>some (!x8)else some false)=some (!(va e i).N==0&&!Ib (va e i).Op):=by
     grind
    rw[hj]at n1⊢;rw[Jac]at n1⊢;generalize (!(va e i).N==0&&!Ib (va e i).Op)=c at n1⊢;cases c
    .rw[if_neg (by simp)]at n1⊢;rw[Oi,Jac,hsub,Z1 (by omega),Jac,n1,Jac];by_cases hz:(Yt e s (Ho e s i) i).2=0
     .rw[if_neg (by omega),if_pos hz,Tu (by omega),Jac,ui (by grind),Jac,wa (by omega)];rfl
     .rw[if_pos hz,if_neg hz];rfl
    .rw[if_pos rfl]at n1⊢;injection n1 with n1;rw[←n1,if_neg (by decide)];rfl
   grind[Hm]
  rw[hl]
  cases hf:ff (ku e s) e.length with
  |some v=>rfl
  |none=>
   obtain⟨h1,h2⟩:=dr (s:=s) hw hN e.length (by omega) (Zb.1 hf);have:0<(Ho e s e.length).length:=by
    rw[h1];obtain⟨k,hk⟩:∃k,e.length=k+1:=⟨e.length-1,by have:=hw.pos;omega⟩
    grind[WG]
   simp only[fc,Jac];rw[show(0:Int)=((0:Nat):Int)from rfl,Ba this,Jac,Lac this];rfl
 simp_all
end Go.Proofs.Dev
namespace Go.Tm
theorem Gv{x n:Int}:∀{l:List Int},x∈Vj l n↔x∈l\/x=n
 |[]=>by simp[Vj]
 |y::l=>by
  simp only[Vj];split
  .grind
  .simp only[Wad,Gv (l:=l)];grind
abbrev pK(l:List Int):Prop:=l.Pairwise (·<·)
theorem Hx{n:Int}:∀{l:List Int},pK l->pK (Vj l n)
 |[],_=>by simp[Vj]
 |y::l,h=>by
  have h':=uae.1 h;simp only[Vj];split
  .split
   .refine uae.2 ⟨λz hz=>?_,h⟩
    grind
   omega
  .refine uae.2 ⟨λz hz=>?_,Hx h'.2⟩;rcases Gv.1 hz with hz|rfl
   all_goals simp_all
theorem OA{n:Int}:∀{l:List Int},(Vj l n).length<=l.length+1
 |[]=>by simp[Vj]
 |y::l=>by
  simp only[Vj];split
  .grind
  .have:=OA (n:=n) (l:=l);simp_all
theorem JO{n:Int}:∀{l:List Int},(∀x∈l,x<n)->Vj l n=l++[n]
 |[],_=>rfl
 |y::l,h=>by
  have:=h y (by simp);simp only[Vj];rw[if_neg (by omega),JO λx hx=>h x (by grind)];rfl
theorem yL{n:Int}{r:List Int}:∀{l:List Int},(∃x∈l,n<=x)->Vj (l++r) n=Vj l n++r
 |[],h=>by grind
 |y::l,h=>by
  simp only[Vj,mad];split
  .grind
  .rename_i hny;rw[yL (l:=l),mad]
   simp_all
theorem kC{n x:Int}:∀{l:List Int},(∀y∈l,y<n)->n<=x->Vj (l++[x]) n=l++(if n<x then [n,x]else [x])
 |[],_,h=>by simp_all[Vj]
 |y::l,hl,h=>by
  have:=hl y (by simp);simp only[Vj,mad];rw[if_neg (by omega),kC (λy hy=>hl y (by grind)) h]
theorem FL{α A β ρ:Type}{step:A×Int->Option (Ex (A×Int) β ρ)}(xs:List α) (f:A->α->A) (a0:A) (b:β) {x0:A×Int}(hx:x0=(a0,0))
 (hgo:∀(i:Nat) (hi:i<xs.length),step ((xs.take i).foldl f a0,(i:Int))=some (.go (f ((xs.take i).foldl f a0) xs[i],((i+1:Nat):Int)))) (hend:step (xs.foldl f a0,(xs.length:Int))=some (.brk b)) :
 da step x0=some (.inl b):=by
 refine Lc (λi=>((xs.take i).foldl f a0,(i:Int))) xs.length b (λi hi=>?_) ?_ (by simp_all)
 all_goals grind[yad]
end Go.Tm
namespace Go.Proofs.Dev
open Go Go.Tm
theorem KT{l:List Int}{n:Int}(hl:l.length<=1099511627776):da (Ll l n) (([]:List Int),false,0)=some (.inl (if(l.any λx=>decide (n<=x))=true then Vj l n else l,l.any λx=>decide (n<=x))):=by
 refine Lc (λi=>(if((l.take i).any λx=>decide (n<=x))=true then Vj (l.take i) n else l.take i,(l.take i).any λx=>decide (n<=x),(i:Int))) l.length _ (λi hi=>?_) ?_ (by simp)
 .unfold Ll;simp only;have ht:l.take (i+1)=l.take i++[l[i]]:=by simp
  have hlen:(l.take i).length=i:=by grind
  rw[if_pos (by omega),ht,List.any_append,Ba hi];generalize l[i]=x;generalize l.take i=p at hlen⊢;cases hp:p.any λx=>decide (n<=x)
  .have hall:∀y∈p,y<n:=λy hy=>by
    simp_all
   simp only[if_true,Jac,Tac,if_false,Bool.false_or,List.any_cons,List.any_nil,vag];by_cases hx:n<=x
   .rw[decide_eq_true hx];simp only[if_true];by_cases hx2:n<x
    .rw[if_pos hx2,ui (by grind),Jac,Jac,Jac];simp only;rw[ui (by grind),Jac,wa (by omega),kC hall hx,if_pos hx2];simp
    .rw[if_neg hx2,Jac,Jac];simp only;rw[ui (by grind),Jac,wa (by omega),kC hall hx,if_neg hx2]
   .rw[decide_eq_false hx];simp only[Tac,if_false,Jac]
    grind[ui,wa]
  .have hex:∃y∈p,n<=y:=by
    simp_all
   have:=OA (n:=n) (l:=p);simp only[iad,if_false,Jac,if_true,Tac,Bool.true_or]
   grind[ui,wa,yL]
 grind[Ll]
theorem Up{l:List Int}{n:Int}(hl:l.length<=1099511627776):il l n=some (Vj l n):=by
 unfold il;rw[KT hl,Jac];simp only;cases hp:l.any λx=>decide (n<=x)
 .have hall:∀y∈l,y<n:=λy hy=>by
   simp_all
  simp only[if_true,Tac,if_false]
  grind[ui,JO]
 simp
theorem Ux{l:List Int}{n:Int}(hl:l.length<=1099511627776):ql l n=some (Vj l n):=by
 rw[←Up hl];rfl
end Go.Proofs.Dev
namespace Go.Tm
theorem fF{l:List Int}{x:Int}:kd (l++[x])=Vj (kd l) x:=by simp[kd,List.foldl_append]
theorem dh(l:List Int):pK (kd l)/\(kd l).length<=l.length/\∀x,x∈kd l↔x∈l:=by
 have key:∀(l a:List Int),pK a->pK (l.foldl Vj a)/\(l.foldl Vj a).length<=a.length+l.length/\∀x,x∈l.foldl Vj a↔x∈a\/x∈l:=by
  intro l
  induction l with
  |nil=>simp
  |cons y l ih=>
   intro a h;obtain⟨h1,h2,h3⟩:=ih (Vj a y) (Hx h);have:=OA (n:=y) (l:=a);refine⟨h1,by grind,λx=>?_⟩
   simp_all[tae,Gv,Wad,or_assoc]
 obtain⟨h1,h2,h3⟩:=key l [] (by simp)
 grind[kd]
theorem yJ{lo hi:Int}:∀{a:List Int},pK a->(∀x∈a,lo<=x/\x<hi)->a.length<=(hi-lo).toNat
 |[],_,_=>by simp
 |x::a,h,hb=>by
  have h':=uae.1 h;have hx:=hb x (by simp);have:=yJ (lo:=x+1) (hi:=hi) h'.2 λy hy=>⟨by grind,(hb y (by grind)).2⟩
  grind
theorem GA:∀{a b:List Int},pK a->pK b->(∀x,x∈a↔x∈b)->a=b
 |[],[],_,_,_=>rfl
 |[],y::b,_,_,h=>by have:=(h y).2 (by simp);simp_all
 |x::a,[],_,_,h=>by have:=(h x).1 (by simp);simp_all
 |x::a,y::b,ha,hb,h=>by
  have ha':=uae.1 ha;have hb':=uae.1 hb;have hxy:x=y:=by
   have h1:=(h x).1 (by simp);have h2:=(h y).2 (by simp)
   grind
  subst hxy;rw[GA ha'.2 hb'.2 λz=>?_]
  grind
end Go.Tm
namespace Go.Proofs.Dev
open Go Go.Tm
def Cw(p:GNode->Bool) (e:List GNode):List Int:=kd ((e.filter p).map (·.N))
theorem TS{p:GNode->Bool}{l:List GNode}{x:GNode}:Cw p (l++[x])=if p x=true then Vj (Cw p l) x.N else Cw p l:=by
 unfold Cw;rw[Zad,List.map_append];by_cases h:p x=true
 all_goals simp_all[if_pos,List.filter_cons_of_pos,List.filter_nil,fF,if_neg,List.filter_cons_of_neg]
theorem Ps{p:GNode->Bool}{e:List GNode}:(Cw p e).length<=e.length:=by
 grind[Cw,dh,Fad]
def zL(n:GNode):Bool:=n.Op==7
def Td(n:GNode):Bool:=n.Op==8
def nz(n:GNode):Bool:=n.Op==36 || n.Op==37 || n.Op==38 || n.Op==39
def On(e:List GNode):List Int×List Int×List Int:=(Cw zL e,Cw Td e,Cw nz e)
theorem GA:∀{a b:List Int},pK a->pK b->(∀x,x∈a↔x∈b)->a=b
 |[],[],_,_,_=>rfl
 |[],y::b,_,_,h=>by have:=(h y).2 (by simp);simp_all
 |x::a,[],_,_,h=>by have:=(h x).1 (by simp);simp_all
 |x::a,y::b,ha,hb,h=>by
  obtain⟨ha1,ha2⟩:=uae.1 ha;obtain⟨hb1,hb2⟩:=uae.1 hb;have hxy:x=y:=by
   have h1:=(h x).1 (by simp);have h2:=(h y).2 (by simp)
   grind
  subst hxy;rw[GA ha2 hb2 λz=>?_]
  grind
theorem iz{d:Array Int}(hs:∀i j,i<j->j<d.size->d[i]!<=d[j]!):∀m,m<=d.size->pK (Go.Lib.compactUpTo d m)/\∀x,x∈Go.Lib.compactUpTo d m↔∃i,i<m/\d[i]! = x
 |0,_=>⟨by simp[Go.Lib.compactUpTo,pK],by simp[Go.Lib.compactUpTo]⟩
 |m+1,hm=>by
  obtain⟨ih1,ih2⟩:=iz hs m (by omega);have hle:∀i,i<m->d[i]!<=d[m-1]!:=by
   intro i hi;by_cases h:i=m-1
   .simp_all
   .exact hs i (m-1) (by omega) (by omega)
  rw[Go.Lib.compactUpTo_succ];by_cases hk:Go.Lib.keeps d m=true
  .rw[if_pos hk];refine⟨?_,λx=>?_⟩
   .unfold pK;rw[List.pairwise_append];refine⟨ih1,by simp,λa ha c hc=>?_⟩;obtain⟨i,hi,rfl⟩:=(ih2 a).1 ha;obtain rfl:=xad.1 hc;have hne:d[m]!≠d[m-1]!:=by
     have:=of_decide_eq_true hk;omega
    have h1:=hle i hi;have h2:=hs (m-1) m (by omega) (by omega);omega
   grind
  .rw[if_neg hk,List.append_nil];refine⟨ih1,λx=>?_⟩;rw[ih2];have hk':Go.Lib.keeps d m=false:=by simp_all
   have hmm:¬(m=0\/d[m]!≠d[m-1]!):=of_decide_eq_false hk'
   grind
theorem Uq(l:List Int):Go.Lib.compact (l.mergeSort λx y=>decide (x<=y))=kd l:=by
 have hp:=List.pairwise_mergeSort (le:=λ(x y:Int)=>decide (x<=y)) (λa b c h1 h2=>by grind) (λa b=>by grind) l;have hm:∀x,x∈(l.mergeSort λx y=>decide (x<=y))↔x∈l:=λx=>List.mem_mergeSort;generalize (l.mergeSort λx y=>decide (x<=y))=q at *;obtain⟨h1,h2⟩:=iz (d:=q.toArray) (λi j hij hj=>by
  grind[List.pairwise_iff_getElem]) q.length (by simp)
 obtain⟨g1,-,g2⟩:=dh l;refine GA h1 g1 λx=>?_;unfold Go.Lib.compact;rw[h2,g2,←hm x];constructor
 .grind
 .intro h;obtain⟨i,hi,rfl⟩:=List.mem_iff_getElem.1 h;exact⟨i,hi,by simp_all⟩
theorem Zr{l:List Int}(h:l.length<=1099511627776):Bj l=some (kd l):=by
 unfold Bj lb Pa;rw[if_pos (by omega),Jac,if_pos (by simp;omega),Jac,Uq]
theorem VB{l:List Int}(h:l.length<=8796093022208):th l=some (kd l):=by
 simp_all[th,lb,Pa,if_pos,Jac,Uq]
theorem Cx{p:GNode->Bool}{l:List GNode}{x:GNode}:((l++[x]).filter p).map (·.N)=if p x=true then(l.filter p).map (·.N)++[x.N]else(l.filter p).map (·.N):=by
 grind
theorem Dp{e:List GNode}(h:e.length<=1099511627776):Pd e=some (On e):=by
 unfold Pd;have hb:∀(p:GNode->Bool) (i:Nat),(((e.take i).filter p).map (·.N)).length<=e.length:=λp i=>by
  grind
 have hl:da (zh e) (([]:List Int),([]:List Int),([]:List Int),0)=some (.inl ((e.filter zL).map (·.N),(e.filter Td).map (·.N),(e.filter nz).map (·.N))):=by
  refine Lc (λi=>(((e.take i).filter zL).map (·.N),((e.take i).filter Td).map (·.N),((e.take i).filter nz).map (·.N),(i:Int))) e.length _ (λi hi=>?_) ?_ rfl
  .have ht:e.take (i+1)=e.take i++[e[i]]:=by simp
   have b1:=hb zL i;have b2:=hb Td i;have b3:=hb nz i;unfold zh;simp only;rw[if_pos (by omega),Ba hi,Jac,wa (by omega),ht,Cx,Cx,Cx]
   grind[zL,Td,nz,ui]
  simp_all[zh,if_neg,dae]
 have c:∀p:GNode->Bool,((e.filter p).map (·.N)).length<=1099511627776:=λp=>by
  grind
 rw[hl,Jac];simp only;rw[Zr (c zL),Jac,Zr (c Td),Jac,Zr (c nz),Jac];rfl
theorem Ut{e:List GNode}(h:e.length<=1099511627776):kh e=some (On e):=by
 unfold kh;have hl:da (Kg e) (([]:List Int),([]:List Int),([]:List Int),0)=some (.inl (On e)):=by
  refine Lc (λi=>((On (e.take i)).1,(On (e.take i)).2.1,(On (e.take i)).2.2,(i:Int))) e.length _ (λi hi=>?_) ?_ rfl
  .have ht:e.take (i+1)=e.take i++[e[i]]:=by simp
   have hlen:(e.take i).length<=1099511627776:=by grind
   have l1:=Ps (p:=zL) (e:=e.take i);have l2:=Ps (p:=Td) (e:=e.take i);have l3:=Ps (p:=nz) (e:=e.take i);unfold Kg On;simp only[ht,TS];rw[if_pos (by omega),Ba hi,wa (by omega)];generalize e[i]=x;simp only[Jac,Up (Vad l1 hlen),Up (Vad l2 hlen),Up (Vad l3 hlen),Rx]
   grind[Kac,decide,zL,Vj,Cw,Td,nz]
  grind[Kg]
 simp_all
def Ix(n:Int) (a:List Int) (x:Int):List Int:=if 0<=x/\x<n then Vj a x else a
def eA(n:Int) (a:List Int):Prop:=pK a/\∀x∈a,0<=x/\x<n
theorem eA.len{n:Int}{a:List Int}(h:eA n a):a.length<=n.toNat:=by
 have:=yJ (lo:=0) (hi:=n) h.1 h.2;omega
theorem eA.nil{n:Int}:eA n []:=⟨by simp,by simp⟩
theorem eA.ins{n:Int}{a:List Int}{x:Int}(h:eA n a):eA n (Ix n a x):=by
 unfold Ix;split
 .rename_i hx;refine⟨Hx h.1,λy hy=>?_⟩;rcases Gv.1 hy with hy|rfl
  .exact h.2 y hy
  omega
 omega
theorem eA.fold{n:Int}:∀{l a:List Int},eA n a->eA n (l.foldl (Ix n) a)
 |[],a,h=>h
 |x::l,a,h=>eA.fold (l:=l) h.ins
theorem ZF{n x:Int}:∀{l a:List Int},x∈l.foldl (Ix n) a↔x∈a\/(x∈l/\0<=x/\x<n)
 |[],a=>by simp
 |y::l,a=>by
  simp only[tae];rw[ZF (l:=l)];unfold Ix;split
  .rename_i hy;rw[Gv,Wad]
   grind
  grind
theorem Sz(s:GScope) (d:Int):Wt s d=some (decide (0<=d)&&decide (d<(s.Defs.length:Int))):=by
 grind[Wt]
def Yx(r:GRule):List Int:=Cw Td r.Guard++Cw Td r.Value
def aF(n d:Int) (a:List Int) (r:GRule):List Int:=if r.Def=d then(Yx r).foldl (Ix n) a else a
def rA(s:GScope) (d:Int):List Int:=if 0<=d/\d<(s.Defs.length:Int)then s.Rules.foldl (aF s.Defs.length d) []else []
structure ScOk (s:GScope):Prop where
 defs:s.Defs.length<=1048576
 rules:s.Rules.length<=1048576
 g:∀r∈s.Rules,r.Guard.length<=1048576/\r.Value.length<=1048576
theorem US{n d:Int}{a:List Int}{r:GRule}(h:eA n a):eA n (aF n d a r):=by
 unfold aF;split
 .exact h.fold
 omega
theorem ux{n d:Int}:∀{l:List GRule}{a:List Int},eA n a->eA n (l.foldl (aF n d) a)
 |[],a,h=>h
 |r::l,a,h=>ux (l:=l) (US h)
theorem sA(s:GScope) (d:Int):eA s.Defs.length (rA s d):=by
 grind[rA,ux,eA.nil]
theorem ZC{s:GScope}(hs:ScOk s) {l:List Int}(hl:l.length<=1099511627776) {a:List Int}(ha:eA s.Defs.length a) {step:List Int×Int->Option (Ex (List Int×Int) (List Int) Unit)}
 (hstep:∀(a:List Int) (i:Nat) (hi:i<l.length),step (a,(i:Int))=(Kac (α:=List Int) (if(decide (0<=l[i])&&decide (l[i]<(s.Defs.length:Int)))=true then(ql a l[i]).bind λx=>some x else some a) λj=>some (.go (j,ca .i64 ((i:Int)+1)))))
 (hend:∀a,step (a,(l.length:Int))=some (.brk a)):da step (a,0)=some (.inl (l.foldl (Ix s.Defs.length) a)):=by
 refine FL l (Ix s.Defs.length) a _ rfl (λi hi=>?_) (hend _);have hI:=(eA.fold (l:=l.take i) ha).len;have:=hs.defs;rw[hstep _ i hi,wa (by omega)];generalize (l.take i).foldl (Ix s.Defs.length) a=b at hI⊢;unfold Ix;by_cases h:0<=l[i]/\l[i]<(s.Defs.length:Int)
 .rw[if_pos (by simp_all),if_pos h,Ux (by omega)];rfl
 grind
theorem Tx{s:GScope}(hs:ScOk s) (d:Int):yn s d=some (rA s d):=by
 unfold yn rA;rw[Sz,Jac];by_cases hd:0<=d/\d<(s.Defs.length:Int)
 .rw[if_neg (by simp_all),if_pos hd];have hl:da (gk s d) (([]:List Int),0)=some (.inl (s.Rules.foldl (aF s.Defs.length d) [])):=by
   refine FL s.Rules (aF s.Defs.length d) [] _ rfl (λi hi=>?_) ?_
   .have hI:eA s.Defs.length ((s.Rules.take i).foldl (aF s.Defs.length d) []):=ux eA.nil;have:=hs.rules;have hg:=hs.g _ (Qac hi);unfold gk;simp only;rw[if_pos (by omega),Ba hi,wa (by omega)];generalize (s.Rules.take i).foldl (aF s.Defs.length d) []=a at hI⊢;generalize s.Rules[i]=r at hg⊢;unfold aF;by_cases h:r.Def=d
    .rw[if_pos h,Jac,if_neg (by omega),Ut (by omega),Jac,Ut (by omega),Jac];have l1:=Ps (p:=Td) (e:=r.Guard);have l2:=Ps (p:=Td) (e:=r.Value);have b1:da (Bn s (On r.Guard)) (a,0)=some (.inl ((Cw Td r.Guard).foldl (Ix s.Defs.length) a)):=by
      refine ZC hs (l:=Cw Td r.Guard) (by omega) hI (λa i hi=>?_) (λa=>?_)
      all_goals simp_all[Bn,On,if_pos,Ba,Jac,Sz]
     rw[b1,Jac];simp only;have b2:da (An s (On r.Value)) ((Cw Td r.Guard).foldl (Ix s.Defs.length) a,0)=some (.inl ((Cw Td r.Value).foldl (Ix s.Defs.length) ((Cw Td r.Guard).foldl (Ix s.Defs.length) a))):=by
      refine ZC hs (l:=Cw Td r.Value) (by omega) (eA.fold hI) (λa i hi=>?_) (λa=>?_)
      all_goals simp_all[An,On,if_pos,Ba,Jac,Sz]
     grind[Yx]
    simp_all
   grind[gk]
  simp_all
 grind
def zE(s:GScope) (d x:Int):Prop:=(0<=d/\d<(s.Defs.length:Int))/\(0<=x/\x<(s.Defs.length:Int))/\∃r∈s.Rules,r.Def=d/\x∈Yx r
theorem RA{s:GScope}{d x:Int}:x∈rA s d↔zE s d x:=by
 have key:∀(l:List GRule) (a:List Int),x∈l.foldl (aF s.Defs.length d) a↔x∈a\/(0<=x/\x<(s.Defs.length:Int))/\∃r∈l,r.Def=d/\x∈Yx r:=by
  intro l
  induction l with
  |nil=>simp
  |cons r l ih=>
   intro a;simp only[tae];rw[ih];unfold aF;split
   .rename_i hr;rw[ZF]
    grind
   simp_all
 unfold rA zE
 simp_all
end Go.Proofs.Dev
namespace Go.Tm
theorem qz{α:Type} [DecidableEq α]:∀{a b:List α},a.Nodup->(∀x∈a,x∈b)->a.length<=b.length
 |[],b,_,_=>by simp
 |x::a,b,h,hs=>by
  obtain⟨h1,h2⟩:=Maf.1 h;have:=qz (a:=a) (b:=b.erase x) h2 λy hy=>by
   grind
  grind
theorem xI{a:List Int}(h:pK a):a.Nodup:=h.imp λh he=>by omega
end Go.Tm
namespace Go.Proofs.Dev
open Go Go.Tm
inductive Way (s:GScope):Int->Int->Prop
 |one {a b:Int} (h:zE s a b):Way s a b
 |step {a b c:Int} (h:Way s a b) (h2:zE s b c):Way s a c
def OZ(s:GScope) (a:List Int) (x:Int):List Int:=(rA s x).foldl Vj a
def trR(s:GScope) (a:List Int):List Int:=a.foldl (OZ s) a
def vz(s:GScope) (d:Int):Nat->List Int
 |0=>rA s d
 |k+1=>trR s (vz s d k)
theorem lC{n:Int}:∀{l a:List Int},(∀x∈l,0<=x/\x<n)->l.foldl Vj a=l.foldl (Ix n) a
 |[],a,_=>rfl
 |x::l,a,h=>by
  simp only[tae];rw[show Ix n a x=Vj a x from if_pos (h x (by simp)),lC λy hy=>h y (by grind)]
theorem YV(s:GScope) (a:List Int) (x:Int):OZ s a x=(rA s x).foldl (Ix s.Defs.length) a:=lC (sA s x).2
theorem PZ{s:GScope}{a:List Int}{x:Int}(h:eA s.Defs.length a):eA s.Defs.length (OZ s a x):=by rw[YV];exact h.fold
theorem QZ{s:GScope}{a:List Int}{x y:Int}:y∈OZ s a x↔y∈a\/zE s x y:=by
 rw[YV,ZF];constructor
 .grind[RA]
 .rintro(h|h)
  .simp_all
  .exact .inr ⟨RA.2 h,h.2.1⟩
theorem dA{s:GScope}:∀{l a:List Int},eA s.Defs.length a->eA s.Defs.length (l.foldl (OZ s) a)
 |[],a,h=>h
 |x::l,a,h=>dA (l:=l) (PZ h)
theorem lu{s:GScope}{y:Int}:∀{l a:List Int},y∈l.foldl (OZ s) a↔y∈a\/∃x∈l,zE s x y
 |[],a=>by simp
 |x::l,a=>by
  simp only[tae];rw[lu (l:=l),QZ]
  grind
theorem EB(s:GScope) (d:Int):∀k,eA s.Defs.length (vz s d k)
 |0=>sA s d
 |k+1=>dA (EB s d k)
theorem NC{s:GScope}{d y:Int}:∀{k:Nat},y∈vz s d k->Way s d y
 |0,h=>.one (RA.1 h)
 |k+1,h=>by
  rcases lu.1 h with h|⟨x,h1,h2⟩
  .exact NC h
  .exact .step (NC h1) h2
theorem cH{s:GScope}{d y:Int}{k:Nat}(h:y∈vz s d k):y∈vz s d (k+1):=lu.2 (.inl h)
theorem mM{s:GScope}{d y:Int}(h:zE s d y):∀k,y∈vz s d k
 |0=>RA.2 h
 |k+1=>cH (mM h k)
def G3(s:GScope) (a:List Int):Prop:=∀x∈a,∀y,zE s x y->y∈a
open Classical in
theorem nM{s:GScope}{d:Int}:∀k,G3 s (vz s d k)\/k+1<=(vz s d k).length
 |0=>by
  cases h:vz s d 0 with
  |nil=>exact .inl λx hx=>by simp at hx
  |cons x l=>exact .inr (by simp)
 |k+1=>by
  by_cases hc:G3 s (vz s d k)
  .refine .inl λx hx y hy=>?_;have hx':x∈vz s d k:=by
    rcases lu.1 hx with h|⟨z,h1,h2⟩
    .exact h
    .exact hc z h1 x h2
   exact cH (hc x hx' y hy)
  .rcases nM k with h|h
   .exact(hc h).elim
   .right;obtain⟨x,hx⟩:=mag.1 hc;obtain⟨hx1,hx2⟩:=zag.1 hx;obtain⟨y,hy⟩:=mag.1 hx2;obtain⟨hy1,hy2⟩:=zag.1 hy;have:=qz (a:=y::vz s d k) (b:=vz s d (k+1)) (Maf.2 ⟨hy2,xI (EB s d k).1⟩) λz hz=>by
     rcases Wad.1 hz with rfl|hz
     .exact lu.2 (.inr ⟨x,hx1,hy1⟩)
     .exact cH hz
    simp only[List.length_cons]at this;omega
theorem ZV(s:GScope) (d:Int):G3 s (vz s d s.Defs.length):=by
 rcases nM (s:=s) (d:=d) s.Defs.length with h|h
 .exact h
 .have:=(EB s d s.Defs.length).len;omega
theorem TO{s:GScope}{d y:Int}:y∈vz s d s.Defs.length↔Way s d y:=by
 constructor
 .exact NC
 .intro h
  induction h with
  |one h=>grind[mM]
  |step h h2 ih=>exact ZV s d _ ih _ h2
theorem Rz{s:GScope}(hs:ScOk s) (d:Int):ik s d=some (vz s d s.Defs.length):=by
 unfold ik;have hn:=hs.defs;have round:∀a,eA s.Defs.length a->da (Tf s a) (a,0)=some (.inl (trR s a)):=by
  intro a ha;have:=ha.len;refine FL a (OZ s) a _ rfl (λi hi=>?_) (by grind[Tf,trR]);have hI:eA s.Defs.length ((a.take i).foldl (OZ s) a):=dA ha;unfold Tf;simp only;rw[if_pos (by omega),Ba hi,Jac,Tx hs,Jac,wa (by omega)];generalize (a.take i).foldl (OZ s) a=b at hI⊢;have hd:=(sA s a[i]).len;have hb:da (Sf (rA s a[i])) (b,0)=some (.inl ((rA s a[i]).foldl Vj b)):=by
   refine FL (rA s a[i]) Vj b _ rfl (λk hk=>?_) (by grind[Sf]);have hI2:eA s.Defs.length (((rA s a[i]).take k).foldl Vj b):=by
    rw[lC λx hx=>(sA s a[i]).2 x (List.mem_of_mem_take hx)];exact hI.fold
   have:=hI2.len;unfold Sf;simp only;rw[if_pos (by omega),Ba hk,Jac,Ux (by omega),Jac,wa (by omega)]
  rw[hb,Jac];rfl
 have hl:da (Uf s) (rA s d,0)=some (.inl (vz s d s.Defs.length)):=by
  refine Lc (λi=>(vz s d i,(i:Int))) s.Defs.length _ (λi hi=>?_) (by grind[Uf]) rfl;unfold Uf;simp only;rw[if_pos (by omega),round _ (EB s d i),Jac,wa (by omega)];rfl
 grind[Tx]
def ND(n:Int) (l:List Int):List Int:=l.filter λx=>decide (0<=x)&&decide (x<n)
theorem kI{n:Int}{l a:List Int}(h:a.length+l.length<=1099511627776) {step:List Int×Int->Option (Ex (List Int×Int) (List Int) Unit)}
 (hstep:∀(a:List Int) (i:Nat) (hi:i<l.length),step (a,(i:Int))=(Kac (α:=List Int) (if(decide (0<=l[i])&&decide (l[i]<n))=true then(app 8 a [l[i]]).bind λx=>some x else some a) λj=>some (.go (j,ca .i64 ((i:Int)+1)))))
 (hend:∀a,step (a,(l.length:Int))=some (.brk a)):da step (a,0)=some (.inl (a++ND n l)):=by
 refine Lc (λi=>(a++ND n (l.take i),(i:Int))) l.length _ (λi hi=>?_) ?_ (by simp[ND])
 .have hlen:(ND n (l.take i)).length<=i:=by
   grind[ND]
  have ht:ND n (l.take (i+1))=ND n (l.take i)++(if(decide (0<=l[i])&&decide (l[i]<n))=true then [l[i]]else []):=by
   grind[ND,yad]
  grind[wa,ui]
 simp_all
theorem yr{r:GRule}(h:r.Guard.length<=1048576/\r.Value.length<=1048576) (n:Int):Xd r n=some (ND n (Cw Td r.Guard)++ND n (Cw Td r.Value)):=by
 unfold Xd;have l1:=Ps (p:=Td) (e:=r.Guard);have l2:=Ps (p:=Td) (e:=r.Value);have l3:(ND n (Cw Td r.Guard)).length<=(Cw Td r.Guard).length:=Fad _ _;rw[Dp (by omega),Jac,Dp (by omega),Jac];have b1:da (ef n (On r.Guard)) (([]:List Int),0)=some (.inl ([]++ND n (Cw Td r.Guard))):=by
  refine kI (l:=Cw Td r.Guard) (by grind) (λa i hi=>?_) (λa=>?_)
  .unfold ef On;simp only;rw[if_pos (by omega),Ba hi,Jac]
   grind
  grind[ef,On]
 rw[b1,Jac];simp only[List.nil_append];have b2:da (df n (On r.Value)) (ND n (Cw Td r.Guard),0)=some (.inl (ND n (Cw Td r.Guard)++ND n (Cw Td r.Value))):=by
  refine kI (l:=Cw Td r.Value) (by omega) (λa i hi=>?_) (λa=>?_)
  .unfold df On;simp only;rw[if_pos (by omega),Ba hi,Jac]
   grind
  grind[df,On]
 simp_all
theorem mapM_some{α β:Type}{f:α->Option β}(g:α->β):∀{l:List α},(∀x∈l,f x=some (g x))->l.mapM f=some (l.map g)
 |[],_=>rfl
 |x::l,h=>by
  rw[List.mapM_cons,h x (by simp),mapM_some g λy hy=>h y (by grind)];rfl
def kq(s:GScope):List (List Int):=
 (aad s.Defs.length).map λ(d:Nat)=>kd ((s.Rules.filter λ(r:GRule)=>r.Def==(d:Int)).map λr=>ND s.Defs.length (Cw Td r.Guard)++ND s.Defs.length (Cw Td r.Value)).flatten
theorem sn{s:GScope}(hs:ScOk s):Oc s=some (kq s):=by
 unfold Oc kq;rw[if_pos ⟨hs.defs,hs.rules,hs.g⟩];refine mapM_some _ λd _=>?_;rw[mapM_some (λr=>ND s.Defs.length (Cw Td r.Guard)++ND s.Defs.length (Cw Td r.Value)) λr hr=>yr (hs.g r (Uad.1 hr).1) _];rfl
theorem QA{s:GScope}{d:Int}{l:List Int}(h0:0<=d) (h:(kq s)[d.toNat]?=some l) (x:Int):x∈l↔zE s d x:=by
 unfold kq at h;rw[List.getElem?_map]at h;by_cases hd:d.toNat<s.Defs.length
 .rw[List.getElem?_range hd]at h;simp only[Option.map_some,Aad]at h;subst h;rw[(dh _).2.2];simp only[List.mem_flatten,jae,Uad,beq_iff_eq,zE,Yx,ND]
  grind
 simp_all
theorem mr(s:GScope):(kq s).length=s.Defs.length:=by simp[kq]
theorem eR{s:GScope}{a b:Int}(h0:0<=a):ReachL (kq s) a b↔Way s a b:=by
 constructor
 .intro h;have key:∀{b:Int},ReachL (kq s) a b->Way s a b/\0<=b:=by
   intro b h
   induction h with
   |one h hb=>exact have:=(QA h0 h _).1 hb;⟨.one this,this.2.1.1⟩
   |step h hl hc ih=>exact have:=(QA ih.2 hl _).1 hc;⟨.step ih.1 this,this.2.1.1⟩
  simp_all
 .intro h;have get:∀{d x:Int},zE s d x->∃l,(kq s)[d.toNat]?=some l/\x∈l:=by
   intro d x hd;have hlt:d.toNat<(kq s).length:=by rw[mr];have:=hd.1;omega
   exact⟨_,Lac hlt,(QA hd.1.1 (Lac hlt) x).2 hd⟩
  induction h with
  |one h=>obtain⟨l,h1,h2⟩:=get h;exact .one h1 h2
  |step h h2 ih=>obtain⟨l,k1,k2⟩:=get h2;exact .step ih k1 k2
theorem eJ{l:List Int}(hl:l.length<=1099511627776) (d:Int):Ae l d=some (decide (d∈l)):=by
 have h:=rn (l:=l) (p:=λx=>some (decide (d=x))) (λx=>decide (d=x)) (λx _=>rfl) (by omega) (o:=da (vg l d) 0) (by
  unfold vg;simp)
 have h':Ae l d=some (l.any λx=>decide (d=x)):=h
 grind
open Classical in
theorem qA{s:GScope}(hs:ScOk s) (d:Int):∃l,Ue s d=some l/\l.length<=1048576/\∀x,x∈l↔Way s d x:=by
 unfold Ue;by_cases hd:0<=d/\d<(s.Defs.length:Int)
 .have hn:=hs.defs;refine⟨oG (kq s) d,?_,?_,?_⟩
  .rw[if_pos (by omega),Jac,if_neg (by simp;omega),sn hs,Jac];unfold Pk;rw[if_pos]
   .rfl
   .refine⟨by rw[mr];omega,λl hl=>?_,hd.1,by rw[mr];exact hd.2⟩;obtain⟨i,hi,rfl⟩:=ead hl;have hm:=λx=>QA (s:=s) (d:=(i:Int)) (l:=(kq s)[i]) (by omega) (by rw[Int.toNat_natCast];exact Lac hi) x;have hb:∀x∈(kq s)[i],0<=x/\x<((kq s).length:Int):=λx hx=>by rw[mr];exact((hm x).1 hx).2.1
    refine⟨?_,hb⟩;have hinc:pK (kq s)[i]:=by simp only[kq,List.getElem_map];exact(dh _).1
    have:=yJ hinc hb;rw[mr]at this;omega
  .have h1:=Fad (λb=>@decide (ReachL (kq s) d b) (Classical.propDecidable _)) ((aad (kq s).length).map λ(k:Nat)=>(k:Int));unfold oG;simp only[List.length_map,List.length_range,mr]at h1⊢;omega
  .intro x;unfold oG;rw[Uad,mr,jae,decide_eq_true_eq,eR hd.1];constructor
   .exact λh=>h.2
   .intro h;refine⟨?_,h⟩;have:0<=x/\x<(s.Defs.length:Int):=by cases h with|one h=>exact h.2.1|step _ h=>exact h.2.1
    exact⟨x.toNat,by simp;omega,by omega⟩
 .refine⟨[],?_,by simp,λx=>?_⟩
  .have:(if¬d<0 then some (decide ((s.Defs.length:Int)<=d))else some true)=some true:=by
    by_cases h:d<0
    .rw[if_neg (by omega)]
    .rw[if_pos h,decide_eq_true (by omega)]
   rw[this];rfl
  .constructor
   .intro h;simp at h
   .intro h;exfalso;apply hd;clear hd
    induction h with
    |one h=>exact h.1
    |step h h2 ih=>exact ih
structure LawOk (l:GLaw):Prop where
 ne:l.Enums.length<=1048576
 nt:l.Tables.length<=1048576
 ns:l.Scopes.length<=1048576
 e:∀x∈l.Enums,x.Name.size<=1048576/\∀m∈x.Members,m.size<=1048576
 t:∀x∈l.Tables,x.Name.size<=1048576
 s:∀x∈l.Scopes,x.Name.size<=1048576/\ScOk x/\x.Inputs.length<=1048576/\(∀f∈x.Inputs,f.Name.size<=1048576)/\(∀f∈x.Defs,f.Name.size<=1048576)/\
  (∀r∈x.Rules,r.Name.size<=1048576/\r.Source.size<=1048576/\(∀n∈r.Guard,Xa n)/\∀n∈r.Value,Xa n)
theorem FK{α ρ:Type}{l:List α}{q:α->Bool}{k:Nat}(hk:k<=l.length) {g:Nat->ρ}:(ff (λi=>if i<k/\(l[i]?.any q)=true then some (g i)else none) l.length).isSome=(l.take k).any q:=by
 rw[←Jm (l:=l.take k) (q:=q) (g:=g)];have h:∀m,k<=m->ff (λi=>if i<k/\(l[i]?.any q)=true then some (g i)else none) m=ff (λi=>if((l.take k)[i]?.any q)=true then some (g i)else none) k:=by
  intro m hm
  cases h1:ff (λi=>if((l.take k)[i]?.any q)=true then some (g i)else none) k with
  |none=>
   grind[Zb]
  |some v=>
   grind[Sa]
 simp_all
theorem so{α:Type}{l:List α}{q:α->Bool}{k:Nat}(hl:l.length<=1048576) (hk:k<=l.length) {step:Int->Option (Ex Int Unit Bool)}
 (hstep:∀(i:Nat) (hi:i<l.length),step (i:Int)=if i<k/\q l[i]=true then some (.ret true)else some (.go ((i+1:Nat):Int))) (hend:step (l.length:Int)=some (.brk ())) :
 da step 0=some (if(l.take k).any q=true then .inr true else .inl ()):=by
 have h1:=bc (step:=step) (x0:=0) (λi=>(i:Int)) (λi=>if i<k/\(l[i]?.any q)=true then some true else none) l.length () (λi hi _=>by
  rw[hstep i hi,Lac hi,eae];by_cases h:i<k/\q l[i]=true
  .rw[if_pos h,if_pos h];rfl
  .rw[if_neg h,if_neg h];rfl) (λ_=>hend)
 rw[h1,←FK (q:=q) (g:=λ_=>true) hk]
 cases hf:ff (λi=>if i<k/\(l[i]?.any q)=true then some true else none) l.length with
 |none=>rfl
 |some v=>
  obtain⟨i,-,h2,-⟩:=Sa.1 hf;split at h2
  .injection h2 with h2;subst h2;rfl
  simp_all
theorem Nz{n:Nat}(hn:n<=1048576) {step:Int->Option (Ex Int Unit Bool)}(hstep:∀i:Nat,i<n->step (i:Int)=some (.go ((i+1:Nat):Int))) (hend:step (n:Int)=some (.brk ())):da step 0=some (.inl ()):=
 Lc (λi=>(i:Int)) n () (λi hi=>hstep i hi) hend
theorem W8{l:GLaw}(h:LawOk l) {i:Nat}(hi:i<=l.Enums.length) (nm:ByteArray):tc l 1 (i:Int) nm=some ((l.Enums.take i).any λx=>decide (x.Name=nm)):=by
 have hne:=h.ne;have hnt:=h.nt;have hns:=h.ns;unfold tc;have h1:da (kc l 1 (i:Int) nm) 0=some (if(l.Enums.take i).any (λx=>decide (x.Name=nm))=true then .inr true else .inl ()):=so hne hi (λk hk=>by
  unfold kc;rw[if_pos (by omega),Ba hk,wa (by omega)]
  grind) (by grind[kc])
 have h2:da (ib l 1 (i:Int) nm) 0=some (.inl ()):=Nz hnt (λk hk=>by
  unfold ib;rw[if_pos (by omega),wa (by omega)];simp) (by grind[ib])
 have h3:da (yb l 1 (i:Int) nm) 0=some (.inl ()):=Nz hns (λk hk=>by
  unfold yb;rw[if_pos (by omega),wa (by omega)];simp) (by grind[yb])
 grind
theorem DK{l:GLaw}(h:LawOk l) {t i:Int}(ht:1<t) (nm:ByteArray):da (kc l t i nm) 0=some (if l.Enums.any (λx=>decide (x.Name=nm))=true then .inr true else .inl ()):=by
 have hne:=h.ne;have:=so (l:=l.Enums) (q:=λx=>decide (x.Name=nm)) (k:=l.Enums.length) (step:=kc l t i nm) hne (cad _) (λk hk=>by
  unfold kc;rw[if_pos (by omega),Ba hk,wa (by omega),if_neg (by omega)]
  simp_all) (by grind[kc])
 simp_all
theorem X8{l:GLaw}(h:LawOk l) {i:Nat}(hi:i<=l.Tables.length) (nm:ByteArray):tc l 2 (i:Int) nm=some ((l.Enums.any λx=>decide (x.Name=nm)) || (l.Tables.take i).any λx=>decide (x.Name=nm)):=by
 have hne:=h.ne;have hnt:=h.nt;have hns:=h.ns;unfold tc;have h2:da (ib l 2 (i:Int) nm) 0=some (if(l.Tables.take i).any (λx=>decide (x.Name=nm))=true then .inr true else .inl ()):=so hnt hi (λk hk=>by
  unfold ib;rw[if_pos (by omega),Ba hk,wa (by omega)]
  grind) (by grind[ib])
 have h3:da (yb l 2 (i:Int) nm) 0=some (.inl ()):=Nz hns (λk hk=>by
  unfold yb;rw[if_pos (by omega),wa (by omega)];simp) (by grind[yb])
 grind[DK]
theorem Y8{l:GLaw}(h:LawOk l) {i:Nat}(hi:i<=l.Scopes.length) (nm:ByteArray):tc l 3 (i:Int) nm=some ((l.Enums.any λx=>decide (x.Name=nm)) || ((l.Tables.any λx=>decide (x.Name=nm)) || (l.Scopes.take i).any λx=>decide (x.Name=nm))):=by
 have hne:=h.ne;have hnt:=h.nt;have hns:=h.ns;unfold tc;have h2:da (ib l 3 (i:Int) nm) 0=some (if l.Tables.any (λx=>decide (x.Name=nm))=true then .inr true else .inl ()):=by
  have:=so (l:=l.Tables) (q:=λx=>decide (x.Name=nm)) (k:=l.Tables.length) (step:=ib l 3 (i:Int) nm) hnt (cad _) (λk hk=>by
   unfold ib;rw[if_pos (by omega),Ba hk,wa (by omega)]
   simp_all) (by grind[ib])
  simp_all
 have h3:da (yb l 3 (i:Int) nm) 0=some (if(l.Scopes.take i).any (λx=>decide (x.Name=nm))=true then .inr true else .inl ()):=so hns hi (λk hk=>by
  unfold yb;rw[if_pos (by omega),Ba hk,wa (by omega)]
  grind) (by grind[yb])
 rw[DK h (by omega),h2,h3]
 grind
theorem iC{l:List GEnum}(hl:l.length<=1048576) (nm:ByteArray):Fk l nm=some (l.any λx=>decide (x.Name=nm)):=by
 have h:=rn (l:=l) (p:=λx=>Qf x nm) (λx=>decide (x.Name=nm)) (λx _=>rfl) (by omega) (o:=da (Zc l (λx=>Qf x nm)) 0) rfl;have h':eb l (λx=>Qf x nm)=some (l.any λx=>decide (x.Name=nm)):=h
 grind[Fk]
theorem MF{l:List GTable}(hl:l.length<=1048576) (nm:ByteArray):Xk l nm=some (l.any λx=>decide (x.Name=nm)):=by
 have h:=rn (l:=l) (p:=λx=>Ve x nm) (λx=>decide (x.Name=nm)) (λx _=>rfl) (by omega) (o:=da (Jc l (λx=>Ve x nm)) 0) rfl;have h':Wa l (λx=>Ve x nm)=some (l.any λx=>decide (x.Name=nm)):=h
 grind[Xk]
theorem rN{l:List GScope}(hl:l.length<=1048576) (y:GScope):Va l (λx=>vd x y)=some (l.any λx=>decide (x.Name=y.Name)):=
 rn (l:=l) (p:=λx=>vd x y) (λx=>decide (x.Name=y.Name)) (λx _=>rfl) (by omega) (o:=da (Ic l (λx=>vd x y)) 0) rfl
theorem LF{l:List GField}(hl:l.length<=1048576) (y:GField):Ha l (λx=>Fc x y)=some (l.any λx=>decide (x.Name=y.Name)):=
 rn (l:=l) (p:=λx=>Fc x y) (λx=>decide (x.Name=y.Name)) (λx _=>rfl) (by omega) (o:=da (Hc l (λx=>Fc x y)) 0) rfl
theorem FQ{l:List GRule}(hl:l.length<=1048576) (y:GRule):Kb l (λx=>uf x y)=some (l.any λx=>decide (x.Name=y.Name)):=
 rn (l:=l) (p:=λx=>uf x y) (λx=>decide (x.Name=y.Name)) (λx _=>rfl) (by omega) (o:=da (bd l (λx=>uf x y)) 0) rfl
theorem DT{l:List ByteArray}(hl:l.length<=1048576) (y:ByteArray):Bd l y=some (l.any λx=>decide (x=y)):=by
 have h:=rn (l:=l) (p:=λx=>some (decide (y=x))) (λx=>decide (x=y)) (λx _=>by grind) (by omega) (o:=da (Cd l y) 0) (by
  unfold Cd;simp)
 exact h
noncomputable def TD(x:GEnum) (k:Nat):Option (Int×Int):=
 match x.Members[k]? with
 |some m=>if Uj m=false then some (2,100+(k:Int))else if((x.Members.take k).any λy=>decide (y=m))=true then some (7,100+(k:Int))else none
 |none=>none
noncomputable def Nf(l:GLaw) (i:Nat) (x:GEnum):Int×Int:=
 if Uj x.Name=false then(2,0)else if((l.Enums.take i).any λy=>decide (y.Name=x.Name))=true then(7,0)
 else if x.Members.length=0 then(5,0)else if 16<x.Members.length then(4,116)else(ff (TD x) x.Members.length).getD (0,0)
theorem ZX{x:GEnum}{k:Nat}{v:Int×Int}(h:TD x k=some v):v.1≠0:=by
 grind[TD]
theorem PD{l:GLaw}(h:LawOk l) {i:Nat}(hi:i<l.Enums.length):Zn l (i:Int) l.Enums[i]=some (Nf l i l.Enums[i]):=by
 obtain⟨g1,g2⟩:=h.e _ (Qac hi);have hne:=h.ne;generalize l.Enums[i]=x at g1 g2⊢;unfold Zn Nf;rw[cp (by omega),Jac];cases Uj x.Name
 .rfl
 simp only[Tac,iad,if_false];rw[Tu (by omega),Jac,iC (by grind),Jac];cases (l.Enums.take i).any λy=>decide (y.Name=x.Name)
 .simp only[Tac,iad,if_false];by_cases h0:x.Members.length=0
  .simp_all
  rw[if_neg (by omega),if_neg h0];by_cases h16:16<x.Members.length
  .grind
  rw[if_neg (by omega),if_neg h16];have hl:da (Wj x) 0=some (fc () (ff (TD x) x.Members.length)):=
   bc (λk=>(k:Int)) _ _ _ (λk hk _=>by
    have hm:=g2 _ (Qac hk);unfold Wj TD;rw[if_pos (by omega),Ba hk,Jac,cp (by omega),Jac,Lac hk,wid (n:=100+(k:Int)) (by omega) (by omega),wa (by omega),Tu (by omega),Jac,DT (by grind),Jac];simp only;cases Uj x.Members[k]
    .rfl
    .simp only[Tac,iad,if_false];cases (x.Members.take k).any λy=>decide (y=x.Members[k])<;>rfl) (λ_=>by grind[Wj])
  rw[hl];cases ff (TD x) x.Members.length<;>rfl
 .rfl
theorem bB{l:GLaw}(h:LawOk l) {i:Nat}(hi:i<l.Enums.length):Ml l (i:Int)=some (if(Nf l i l.Enums[i]).1=0 then⟨0,0,0,0⟩else⟨(Nf l i l.Enums[i]).1,1,i,(Nf l i l.Enums[i]).2⟩):=by
 obtain⟨g1,g2⟩:=h.e _ (Qac hi);have hne:=h.ne;unfold Ml Nf;rw[Ba hi,Jac];generalize l.Enums[i]=x at g1 g2⊢;rw[Rm (by omega),Jac,W8 h (by omega),Jac];cases Uj x.Name
 .rfl
 simp only[Tac,iad,if_false];cases (l.Enums.take i).any λy=>decide (y.Name=x.Name)
 .simp only[Tac,iad,if_false];by_cases h0:x.Members.length=0
  .simp_all
  rw[if_neg (by omega),if_neg h0];by_cases h16:16<x.Members.length
  .grind
  rw[if_neg (by omega),if_neg h16];have hl:da (Qh (i:Int) x) (0,0)=some (fc () ((ff (TD x) x.Members.length).map λv=>(⟨v.1,1,(i:Int),v.2⟩:GLawError))):=by
   have hff:(ff (TD x) x.Members.length).map (λv=>(⟨v.1,1,(i:Int),v.2⟩:GLawError))=ff (λk=>(TD x k).map λv=>(⟨v.1,1,(i:Int),v.2⟩:GLawError)) x.Members.length:=by
    cases h1:ff (TD x) x.Members.length with
    |none=>grind[Zb]
    |some v=>grind[Sa]
   rw[hff];refine bc (λk=>((if k=0 then 0 else 100+((k-1:Nat):Int)),(k:Int))) _ _ _ (λk hk _=>?_) (λ_=>by grind[Qh]) (by rfl);have hm:=g2 _ (Qac hk);unfold Qh TD;simp only;rw[if_pos (by omega),Ba hk,Jac,Rm (by omega),Jac,Lac hk,wid (n:=100+(k:Int)) (by omega) (by omega),wa (by omega)];have hl2:da (Ph (i:Int) x (k:Int) x.Members[k]) 0=some (fc () (ff (λj=>if((x.Members.take k)[j]?.any λy=>decide (y=x.Members[k]))=true then some (Ex.ret (⟨7,1,(i:Int),100+(k:Int)⟩:GLawError))else none) (x.Members.take k).length)):=
    bc (λj=>(j:Int)) _ _ _ (λj hj _=>by
     have hjk:j<k:=by grind
     unfold Ph;rw[if_pos (by omega),Ba (by omega),Jac,Lac hj,wid (n:=100+(k:Int)) (by omega) (by omega),wa (by omega)];simp only[eae,Aae,decide_eq_true_eq];by_cases he:x.Members[j]=x.Members[k]
     .rw[if_pos he,if_pos he];rfl
     .rw[if_neg he,if_neg he];rfl) (λ_=>by
      grind[Ph])
   dsimp only;cases Uj x.Members[k]
   .rfl
   simp only[Tac,iad,if_false];rw[hl2,Jac,←Jm (l:=x.Members.take k) (q:=λy=>decide (y=x.Members[k])) (g:=λ_=>(Ex.ret (⟨7,1,(i:Int),100+(k:Int)⟩:GLawError):Ex (Int×Int) Unit GLawError))]
   cases h1:ff (λj=>if((x.Members.take k)[j]?.any λy=>decide (y=x.Members[k]))=true then some (Ex.ret (⟨7,1,(i:Int),100+(k:Int)⟩:GLawError):Ex (Int×Int) Unit GLawError)else none) (x.Members.take k).length with
   |none=>simp[fc,mH]
   |some v=>
    obtain⟨j,j1,j2,-⟩:=Sa.1 h1;split at j2
    .injection j2 with j2;subst j2;rfl
    simp_all
  rw[hl]
  cases h1:ff (TD x) x.Members.length with
  |none=>rfl
  |some v=>
   grind[fc,Sa,ZX]
 .rfl
noncomputable def qo(l:GLaw) (i:Nat) (x:GTable):Int×Int:=
 if Uj x.Name=false then(2,0)
 else if((l.Enums.any λy=>decide (y.Name=x.Name)) || (l.Tables.take i).any λy=>decide (y.Name=x.Name))=true then(7,0)
 else if(bq x l.Enums).2=0 then(0,0)else((bq x l.Enums).2,if(bq x l.Enums).1 = -1 then 0 else 100+(bq x l.Enums).1)
theorem YG(t:GTable) (e:List GEnum):-1<=(bq t e).1/\(bq t e).1<=64:=by
 unfold bq;split
 .simp
 .split
  .simp
  .cases h:ff (XJ t e) t.Rows.length with
   |none=>simp
   |some v=>
    grind[XJ,Sa]
theorem JQ{l:GLaw}(h:LawOk l):da (Hh l) 0=some (fc () (ff (λi=>match l.Tables[i]? with|some x=>if(qo l i x).1=0 then none else some (⟨(qo l i x).1,2,(i:Int),(qo l i x).2⟩:GLawError)|none=>none) l.Tables.length)):=by
 have hnt:=h.nt;have hne:=h.ne;refine bc (λk=>(k:Int)) _ _ _ (λi hi _=>?_) (λ_=>by grind[Hh]);have hx:=h.t _ (Qac hi);unfold Hh qo;rw[if_pos (by omega),Ba hi,Jac,Lac hi,wa (by omega)];simp only;generalize l.Tables[i]=x at hx⊢;have hr:=YG x l.Enums;rw[JC,Jac,cp (by omega),Jac,iC hne,Jac,Tu (by omega),Jac,MF (by grind),wid (n:=100+(bq x l.Enums).1) (by omega) (by omega)]
 grind[mH]
theorem Vz{l:GLaw}(h:LawOk l) {i:Nat}(hi:i<l.Tables.length):qk l (i:Int)=some (if(qo l i l.Tables[i]).1=0 then⟨0,0,0,0⟩else⟨(qo l i l.Tables[i]).1,2,i,(qo l i l.Tables[i]).2⟩):=by
 have hnt:=h.nt;have hne:=h.ne;have hx:=h.t _ (Qac hi);unfold qk qo;rw[Ba hi,Jac];generalize l.Tables[i]=x at hx⊢;have hr:=YG x l.Enums;rw[Rm (by omega),Jac,X8 h (by omega),Jac,yC,Jac,wid (n:=100+(bq x l.Enums).1) (by omega) (by omega)]
 grind
noncomputable def Gt(l:GLaw) (f:GField) (a b:List GField):Int:=
 if Uj f.Name=false then 2 else if((a.any λy=>decide (y.Name=f.Name)) || b.any λy=>decide (y.Name=f.Name))=true then 7 else if ia f.Type_ l.Enums=false then 8 else 0
theorem Dv{l:GLaw}{f:GField}{a b:List GField}(hf:f.Name.size<=1048576) (ha:a.length<=1048576) (hb:b.length<=1048576):Eh l f a b=some (Gt l f a b):=by
 unfold Eh Gt;rw[cp (by omega),Jac,LF ha,Jac,LF hb,Ka,Jac]
 grind
theorem Mq{l:List GField}{k:Nat}(hl:l.length<=1048576) (hk:k<=l.length) (nm:ByteArray):Rh l (k:Int) nm=some ((l.take k).any λy=>decide (y.Name=nm)):=by
 unfold Rh;have h1:da (oj l (k:Int) nm) 0=some (fc () (ff (λi=>if((l.take k)[i]?.any λy=>decide (y.Name=nm))=true then some true else none) (l.take k).length)):=
  bc (λi=>(i:Int)) _ _ _ (λi hi _=>by
   have hik:i<k:=by simp_all
   unfold oj;rw[if_pos (by omega),Jac,decide_eq_true (by omega),if_pos rfl,Ba (by omega),Jac,Lac hi,wa (by omega)];simp only[eae,Aae,decide_eq_true_eq];by_cases he:l[i].Name=nm
   .rw[if_pos he,if_pos he];rfl
   .rw[if_neg he,if_neg he];rfl) (λ_=>by
    simp_all[oj])
 rw[h1,←Jm (q:=λ(y:GField)=>decide (y.Name=nm)) (g:=λ_=>true),Jac]
 cases h2:ff (λi=>if((l.take k)[i]?.any λy=>decide (y.Name=nm))=true then some true else none) (l.take k).length with
 |none=>rfl
 |some v=>
  obtain⟨j,j1,j2,-⟩:=Sa.1 h2;split at j2
  .injection j2 with j2;subst j2;rfl
  simp_all
theorem MD{l:List GField}(hl:l.length<=1048576) {step:List GType×Int->Option (Ex (List GType×Int) (List GType) Unit)}
 (hstep:∀(a:List GType) (i:Nat) (hi:i<l.length),step (a,(i:Int))=((app 16 a [l[i].Type_]).bind λx=>some (.go (x,ca .i64 ((i:Int)+1)))))
 (hend:∀a,step (a,(l.length:Int))=some (.brk a)):da step (([]:List GType),0)=some (.inl (l.map (·.Type_))):=by
 refine Lc (λi=>((l.take i).map (·.Type_),(i:Int))) l.length _ (λi hi=>?_) (by simp_all) (by simp)
 grind[ui,wa,yad]
theorem Hq{l:List GField}(hl:l.length<=1048576):Jh l=some (l.map (·.Type_)):=by
 unfold Jh;rw[MD hl (step:=bj l) (λa i hi=>by simp_all[bj,Ba]) (λa=>by grind[bj])];rfl
def Oq(l:GLaw) (s:GScope):GSignature:=
 if h:0<=s.MemberScope/\s.MemberScope<(l.Scopes.length:Int)then⟨l.Enums,l.Tables,s.Inputs.map (·.Type_),s.Defs.map (·.Type_),(l.Scopes[s.MemberScope.toNat]'(by omega)).Defs.map (·.Type_),true⟩
 else⟨l.Enums,l.Tables,s.Inputs.map (·.Type_),s.Defs.map (·.Type_),[],false⟩
theorem bm{l:GLaw}(h:LawOk l) {i:Nat}(hi:i<l.Scopes.length):pd l (i:Int)=some (Oq l l.Scopes[i]):=by
 obtain⟨g1,g2,g3,-⟩:=h.s _ (Qac hi);have gd:=g2.defs;unfold pd Oq;rw[Ba hi,Jac];generalize l.Scopes[i]=x at gd g3⊢;rw[Hq g3,Jac,Hq gd,Jac];by_cases hm:0<=x.MemberScope/\x.MemberScope<(l.Scopes.length:Int)
 .have hd:=(h.s _ (Qac (l:=l.Scopes) (n:=x.MemberScope.toNat) (by omega))).2.1.defs
  simp_all[Si,Hq]
 grind
theorem Pu{l:GLaw}(h:LawOk l) {i:Nat}(hi:i<l.Scopes.length):Ai l (i:Int)=some (Oq l l.Scopes[i]):=by
 rw[←bm h hi];unfold Ai pd;rw[if_pos (by omega),Jac,if_neg (by simp_all)];rfl
def zB(s:ByteArray) (i:Nat):Bool:=if h:i<s.size then decide (32<=(s[i].toNat:Int))&&decide ((s[i].toNat:Int)<=126)&&!((s[i].toNat:Int)==34)else true
def YN(s:ByteArray):Bool:=decide (s.size<=64)&&(ff (λi=>if zB s i=true then none else some false) s.size).isNone
theorem cB{s:ByteArray}(hs:s.size<=1048576):Nl s=some (YN s):=by
 unfold Nl YN;have h1:da (Th s) 0=some (fc () (ff (λi=>if zB s i=true then none else some false) s.size)):=
  bc (λi=>(i:Int)) _ _ _ (λi hi _=>by
   unfold Th zB;rw[if_pos (by omega),NI hi,Jac,wa (by omega),dif_pos hi]
   grind[mH]) (λ_=>by grind[Th])
 rw[h1]
 cases h2:ff (λi=>if zB s i=true then none else some false) s.size with
 |none=>
  grind[decide,fc]
 |some v=>
  grind[fc,Sa]
theorem MQ{s:ByteArray}{c:UInt8}:s.data.toList.contains c=true↔∃i,∃h:i<s.size,s[i]=c:=by
 rw[List.contains_iff_mem];constructor
 .intro h;obtain⟨i,hi,he⟩:=ead h;exact⟨i,by simpa using hi,by rw[←he];rfl⟩
 .rintro⟨i,hi,rfl⟩;exact Qac (l:=s.data.toList) (n:=i) (by simp_all)
theorem NA{s:ByteArray}(hs:s.size<=1048576):zi s=some (YN s):=by
 unfold zi YN strings_Contains;rw[if_pos (show(Pac #[34]).size=1 from rfl)];by_cases h64:64<s.size
 .grind
 rw[if_pos (by omega),decide_eq_true (p:=s.size<=64) (by omega)];have h1:da (Kh s) 0=some (fc () (ff (λi=>if(if h:i<s.size then decide (32<=(s[i].toNat:Int))&&decide ((s[i].toNat:Int)<=126)else true)=true then none else some false) s.size)):=
  bc (λi=>(i:Int)) _ _ _ (λi hi _=>by
   unfold Kh;rw[if_pos (by omega),NI hi,Jac,wa (by omega),dif_pos hi]
   grind[mH]) (λ_=>by grind[Kh])
 rw[h1];simp only[Jac,Lad];have hc:=MQ (s:=s) (c:=34);change (s.data.toList.contains ((Pac #[34]).data.toList.headD 0))=true↔_ at hc;have h34:∀i (h:i<s.size),s[i]=34↔(s[i].toNat:Int)=34:=λi h=>by
  constructor
  .simp_all
  .intro he;apply UInt8.toNat_inj.1
   grind
 cases hq:s.data.toList.contains ((Pac #[34]).data.toList.headD 0)
 .rw[hq]at hc;have hno:∀i (h:i<s.size),(s[i].toNat:Int)≠34:=λi h he=>by
   simp_all
  rw[if_neg (by simp)];have hff:ff (λi=>if(if h:i<s.size then decide (32<=(s[i].toNat:Int))&&decide ((s[i].toNat:Int)<=126)else true)=true then none else some false) s.size=ff (λi=>if zB s i=true then none else some false) s.size:=by
   simp_all[zB]
  rw[hff]
  cases h2:ff (λi=>if zB s i=true then none else some false) s.size with
  |none=>rfl
  |some v=>
   obtain⟨j,j1,j2,-⟩:=Sa.1 h2;split at j2
   .grind
   .injection j2 with j2;subst j2;rfl
 .obtain⟨i,hi,he⟩:=hc.1 hq;rw[if_pos rfl]
  cases h2:ff (λi=>if zB s i=true then none else some false) s.size with
  |some v=>rfl
  |none=>
   simp_all[zB,Zb]
noncomputable def gH(e:List GNode) (s:GSignature) (t:GType):Int:=
 if¬(uo e s).2.2=0 then(uo e s).2.2 else if¬((uo e s).1.Kind=t.Kind/\(uo e s).1.Enum=t.Enum)then 8 else 0
theorem Hw{e:List GNode}(hN:∀n∈e,Xa n) (s:GSignature) (t:GType):Cj e s t=some (gH e s t):=by
 grind[Cj,gH,lz]
theorem Qu{e:List GNode}(hN:∀n∈e,Xa n) (s:GSignature) (t:GType):Bi e s t=some (gH e s t):=by
 grind[Bi,gH,Sx]
def IC(x:GScope) (k:Nat) (r:GRule):Nat:=((x.Rules.take k).filter λy=>decide (y.Def=r.Def)).length
theorem mP(x:GScope) (k:Nat) (r:GRule):IC x k r<=k:=by
 grind[IC]
theorem MI{x:GScope}{k:Nat}{r:GRule}(hk:k<x.Rules.length):IC x (k+1) r=if x.Rules[k].Def=r.Def then IC x k r+1 else IC x k r:=by
 unfold IC;rw[yad,Lac hk,Zad,List.length_append]
 grind
def kG(x:GScope) (k:Nat) (r:GRule):Bool:=
 if r.Parent = -1 then false else if r.Parent<0 then true else if(k:Int)<=r.Parent then true else match x.Rules[r.Parent.toNat]? with|some q=>q.Def !=r.Def|none=>true
noncomputable def BD(x:GScope) (s:GSignature) (k:Nat) (r:GRule):Int:=
 if Uj r.Name=false then 2
 else if((x.Rules.take k).any λy=>decide (y.Name=r.Name))=true then 7
 else if r.Def<0\/(x.Defs.length:Int)<=r.Def then 6
 else if kG x k r=true then 9
 else if r.Priority<0\/9<r.Priority\/r.Valid.From<0\/r.Valid.To<=r.Valid.From\/109573<r.Valid.To then 3
 else if 8<=IC x k r then 4
 else if YN r.Source=false then 2
 else if 0<r.Guard.length/\gH r.Guard s ⟨1,0⟩≠0 then gH r.Guard s ⟨1,0⟩
 else gH r.Value s (match x.Defs[r.Def.toNat]? with|some d=>d.Type_|none=>⟨0,0⟩)
structure RuleOk (r:GRule):Prop where
 nm:r.Name.size<=1048576
 src:r.Source.size<=1048576
 g:∀n∈r.Guard,Xa n
 v:∀n∈r.Value,Xa n
theorem U1{x:GScope}{k:Nat}{r:GRule}(hk:k<x.Rules.length) {o:Option Bool}(ho:o=(if¬r.Parent = -1 then if¬r.Parent<0 then if¬(k:Int)<=r.Parent then(idx x.Rules r.Parent).bind λy=>some (y.Def !=r.Def)else some true else some true else some false)):o=some (kG x k r):=by
 rw[ho];unfold kG;by_cases h1:r.Parent = -1
 .grind
 by_cases h2:r.Parent<0
 .simp_all
 by_cases h3:(k:Int)<=r.Parent
 .simp_all
 .rw[if_pos h1,if_pos h2,if_pos h3,if_neg h1,if_neg h2,if_neg h3,Si (by omega) (by omega),Jac,Lac]
theorem QD{x:GScope}(hx:ScOk x) {k:Nat}(hk:k<x.Rules.length) (hr:RuleOk x.Rules[k]) (s:GSignature):Vl x (k:Int) s=some (BD x s k x.Rules[k]):=by
 have hrl:=hx.rules;have hdl:=hx.defs;unfold Vl BD;rw[Ba hk,Jac,Tu (by omega),Jac];generalize hrr:x.Rules[k]=r at hr⊢;have hl:da (Xj r (x.Rules.take k)) (0,0)=some (.inl ((IC x k r:Nat):Int)):=by
  refine Lc (λi=>(((IC x i r:Nat):Int),(i:Int))) k _ (λi hi=>?_) ?_ rfl
  .have:=mP x i r;unfold Xj;simp only;rw[if_pos (by grind),Ba (by grind),Jac,wa (by omega),wa (by omega),Aae,MI (by omega)]
   grind
  grind[Xj]
 rw[hl,Jac];simp only;rw[cp (by have:=hr.nm;omega),Jac,Jac,FQ (by grind),Jac];cases Uj r.Name
 .rfl
 simp only[iad,if_false];cases (x.Rules.take k).any λy=>decide (y.Name=r.Name)
 .simp only[Tac,if_false];by_cases hd:r.Def<0\/(x.Defs.length:Int)<=r.Def
  .grind
  .rw[if_neg hd,if_pos (by omega),Jac,if_neg (by simp_all)];rw[U1 hk rfl,Jac];cases kG x k r
   .simp only[Tac,if_false];by_cases hp:r.Priority<0\/9<r.Priority
    .grind
    .rw[if_pos (show¬r.Priority<0 by omega),Jac,if_neg (by simp_all)];by_cases hv:r.Valid.From<0\/r.Valid.To<=r.Valid.From\/109573<r.Valid.To
     .grind
     .rw[if_pos (show¬r.Valid.From<0 by omega),if_pos (show¬r.Valid.To<=r.Valid.From by omega),Jac,if_neg (by simp_all),if_neg (show¬(r.Priority<0\/9<r.Priority\/r.Valid.From<0\/r.Valid.To<=r.Valid.From\/109573<r.Valid.To) by omega)];by_cases h8:8<=IC x k r
      .grind
      rw[if_neg (by omega),if_neg h8,NA hr.src,Jac];cases YN r.Source
      .rfl
      simp only[iad,if_false];have hi:idx x.Defs r.Def=some (x.Defs[r.Def.toNat]'(by omega)):=Si (by omega) (by omega);have hg2:x.Defs[r.Def.toNat]?=some (x.Defs[r.Def.toNat]'(by omega)):=Lac _;simp only[hi,hg2,Hw hr.g,Hw hr.v,Jac]
      grind
   .rfl
 .rfl
theorem iR{v:GDateRange}:yR v=false\/v.From=v.To↔v.From<0\/v.To<=v.From\/109573<v.To:=by
 grind[yR]
theorem ZJ{l:GLaw}(h:LawOk l) {i:Nat}(hi:i<l.Scopes.length) {r:GRule}(hr:r∈l.Scopes[i].Rules):RuleOk r:=by
 obtain⟨-,-,-,-,-,g⟩:=h.s _ (Qac hi);obtain⟨a,b,c,d⟩:=g r hr;exact⟨a,b,c,d⟩
theorem dB{l:GLaw}(h:LawOk l) {i:Nat}(hi:i<l.Scopes.length) {k:Nat}(hk:k<l.Scopes[i].Rules.length):Ol l (i:Int) (k:Int)=some (BD l.Scopes[i] (Oq l l.Scopes[i]) k l.Scopes[i].Rules[k]):=by
 have hr:=ZJ h hi (Qac hk);have hx:=(h.s _ (Qac hi)).2.1;have hS:=Pu h hi;unfold Ol;rw[Ba hi,Jac];generalize l.Scopes[i]=x at hk hr hx hS⊢;have hrl:=hx.rules;have hdl:=hx.defs;rw[Ba hk,Jac];unfold BD;generalize hrr:x.Rules[k]=r at hr⊢;rw[Rm (by have:=hr.nm;omega),Jac];cases Uj r.Name
 .rfl
 simp only[iad,if_false];have hl:da (Uh (k:Int) x r) (0,0)=some (fc ((IC x k r:Nat):Int) (ff (λi=>if((x.Rules.take k)[i]?.any λy=>decide (y.Name=r.Name))=true then some 7 else none) (x.Rules.take k).length)):=by
  refine bc (λi=>(((IC x i r:Nat):Int),(i:Int))) _ _ _ (λj hj _=>?_) (λ_=>?_) rfl
  .have hjk:j<k:=by grind
   have:=mP x j r;unfold Uh;simp only;rw[if_pos (by omega),Ba (by omega),Jac,wa (by omega),wa (by omega),Lac hj,MI (by omega)];simp only[eae,Aae,decide_eq_true_eq];by_cases hn:x.Rules[j].Name=r.Name
   .rw[if_pos hn,if_pos hn];rfl
   .rw[if_neg hn,if_neg hn];by_cases hd:x.Rules[j].Def=r.Def
    .rw[if_pos hd,if_pos hd];rfl
    .rw[if_neg hd,if_neg hd];rfl
  grind[Uh]
 rw[hl,Jac,←Jm (q:=λ(y:GRule)=>decide (y.Name=r.Name)) (g:=λ_=>(7:Int))]
 cases h2:ff (λi=>if((x.Rules.take k)[i]?.any λy=>decide (y.Name=r.Name))=true then some (7:Int)else none) (x.Rules.take k).length with
 |some v=>
  obtain⟨j,j1,j2,-⟩:=Sa.1 h2;split at j2
  .injection j2 with j2;subst j2;rfl
  simp_all
 |none=>
  simp only[fc,Option.isSome_none,Tac,if_false];by_cases hd:r.Def<0\/(x.Defs.length:Int)<=r.Def
  .grind
  .rw[if_neg hd,if_pos (by omega),Jac,if_neg (by simp_all)];rw[U1 hk rfl,Jac];cases kG x k r
   .simp only[Tac,if_false,cr,Jac];have hb:=iR (v:=r.Valid);by_cases hp:r.Priority<0\/9<r.Priority
    .grind
    .rw[if_pos (show¬r.Priority<0 by omega),if_pos (show¬9<r.Priority by omega)];by_cases hv:r.Valid.From<0\/r.Valid.To<=r.Valid.From\/109573<r.Valid.To
     .grind
     .have h1:yR r.Valid=true:=by
       simp_all
      have h2:¬r.Valid.From=r.Valid.To:=λhq=>hv (hb.1 (.inr hq));rw[if_pos h1,Jac,if_neg (by simp_all),if_neg (show¬(r.Priority<0\/9<r.Priority\/r.Valid.From<0\/r.Valid.To<=r.Valid.From\/109573<r.Valid.To) by omega)];by_cases h8:8<=IC x k r
      .grind
      rw[if_neg (by omega),if_neg h8,cB hr.src,Jac];cases YN r.Source
      .rfl
      simp only[iad,if_false];have hi':idx x.Defs r.Def=some (x.Defs[r.Def.toNat]'(by omega)):=Si (by omega) (by omega);have hg2:x.Defs[r.Def.toNat]?=some (x.Defs[r.Def.toNat]'(by omega)):=Lac _;simp only[hS,hi',hg2,Qu hr.g,Qu hr.v,Jac]
      grind
   .rfl
noncomputable def GQ(l:GLaw) (x:GScope) (k:Nat):Option (Int×Int):=
 match x.Inputs[k]? with
 |some f=>if Gt l f (x.Inputs.take k) []=0 then none else some (Gt l f (x.Inputs.take k) [],100+(k:Int))
 |none=>none
noncomputable def YE(l:GLaw) (x:GScope) (k:Nat):Option (Int×Int):=
 match x.Defs[k]? with
 |some f=>if Gt l f x.Inputs (x.Defs.take k)=0 then none else some (Gt l f x.Inputs (x.Defs.take k),200+(k:Int))
 |none=>none
noncomputable def SH(l:GLaw) (x:GScope) (k:Nat):Option (Int×Int):=
 match x.Rules[k]? with
 |some r=>if BD x (Oq l x) k r=0 then none else some (BD x (Oq l x) k r,300+(k:Int))
 |none=>none
open Classical in
noncomputable def JD(x:GScope) (k:Nat):Option (Int×Int):=if Way x (k:Int) (k:Int)then some (9,200+(k:Int))else none
def fw(l:GLaw) (i:Nat) (x:GScope):Bool:=
 if x.MemberScope = -1 then false else if x.MemberScope<0 then true else if(i:Int)<=x.MemberScope then true else match l.Scopes[x.MemberScope.toNat]? with|some q=>q.MemberScope !=-1|none=>true
noncomputable def vf(l:GLaw) (i:Nat) (x:GScope):Int×Int:=
 if Uj x.Name=false then(2,0)
 else if((l.Enums.any λy=>decide (y.Name=x.Name)) || ((l.Tables.any λy=>decide (y.Name=x.Name)) || (l.Scopes.take i).any λy=>decide (y.Name=x.Name)))=true then(7,0)
 else if fw l i x=true then(6,0)
 else if 12<x.Inputs.length then(4,112)
 else if 12<x.Defs.length then(4,212)
 else match ff (GQ l x) x.Inputs.length with
  |some v=>v
  |none=>match ff (YE l x) x.Defs.length with
   |some v=>v
   |none=>match ff (SH l x) x.Rules.length with
    |some v=>v
    |none=>(ff (JD x) x.Defs.length).getD (0,0)
theorem ZT{l:GLaw}{i:Nat}{x:GScope}(hi:i<l.Scopes.length) {o:Option Bool}(ho:o=(if¬x.MemberScope = -1 then if¬x.MemberScope<0 then if¬(i:Int)<=x.MemberScope then(idx l.Scopes x.MemberScope).bind λy=>some (y.MemberScope !=-1)else some true else some true else some false)):o=some (fw l i x):=by
 rw[ho];unfold fw;by_cases h1:x.MemberScope = -1
 .grind
 by_cases h2:x.MemberScope<0
 .simp_all
 by_cases h3:(i:Int)<=x.MemberScope
 .simp_all
 .rw[if_pos h1,if_pos h2,if_pos h3,if_neg h1,if_neg h2,if_neg h3,Si (by omega) (by omega),Jac,Lac]
theorem LQ{l:GLaw}{i:Nat}{x:GScope}(hi:i<l.Scopes.length) {o:Option Bool}(ho:o=(if¬x.MemberScope = -1 then if¬x.MemberScope<0 then if¬(i:Int)<=x.MemberScope then(idx (l.Scopes.take i) x.MemberScope).bind λy=>some (y.MemberScope !=-1)else some true else some true else some false)):o=some (fw l i x):=by
 rw[ho];unfold fw;by_cases h1:x.MemberScope = -1
 .grind
 by_cases h2:x.MemberScope<0
 .simp_all
 by_cases h3:(i:Int)<=x.MemberScope
 .simp_all
 .rw[if_pos h1,if_pos h2,if_pos h3,if_neg h1,if_neg h2,if_neg h3,Si (by omega) (by grind),Jac,Lac (by omega),Aae]
theorem oC{l:GLaw}(h:LawOk l) {i:Nat}(hi:i<l.Scopes.length):Yj l (i:Int)=some (vf l i l.Scopes[i]):=by
 obtain⟨g1,g2,g3,g4,g5,g6⟩:=h.s _ (Qac hi);have hne:=h.ne;have hnt:=h.nt;have hns:=h.ns;have hS:=bm h hi;have hRu:∀r∈l.Scopes[i].Rules,RuleOk r:=λr hr=>ZJ h hi hr;unfold Yj vf;rw[Ba hi,Jac,Tu (by omega),Jac];generalize l.Scopes[i]=x at g1 g2 g3 g4 g5 g6 hS hRu⊢;have gd:=g2.defs;have gr:=g2.rules;rw[iC hne,Jac,MF hnt,rN (by grind),cp (by omega)];have htk:(if(l.Enums.any λy=>decide (y.Name=x.Name))=false then(some (l.Tables.any λy=>decide (y.Name=x.Name))).bind λx5=>if x5=false then(some ((l.Scopes.take i).any λy=>decide (y.Name=x.Name))).bind λx7=>some x7 else some true else some true) =
  some ((l.Enums.any λy=>decide (y.Name=x.Name)) || ((l.Tables.any λy=>decide (y.Name=x.Name)) || (l.Scopes.take i).any λy=>decide (y.Name=x.Name))):=by
  grind
 rw[htk,Jac,Jac];cases Uj x.Name
 .rfl
 simp only[iad,if_false];cases (l.Enums.any λy=>decide (y.Name=x.Name)) || ((l.Tables.any λy=>decide (y.Name=x.Name)) || (l.Scopes.take i).any λy=>decide (y.Name=x.Name))
 .simp only[Tac,if_false];rw[LQ (l:=l) (x:=x) hi rfl,Jac];cases fw l i x
  .simp only[Tac,if_false];by_cases hI:12<x.Inputs.length
   .grind
   rw[if_neg (by omega),if_neg hI];by_cases hD:12<x.Defs.length
   .grind
   rw[if_neg (by omega),if_neg hD];have l1:da (Zi l x) 0=some (fc () (ff (GQ l x) x.Inputs.length)):=
    bc (λk=>(k:Int)) _ _ _ (λk hk _=>by
     unfold Zi GQ;rw[if_pos (by omega),Ba hk,Jac,Tu (by omega),Jac,Dv (g4 _ (Qac hk)) (by grind) (by simp),Jac,Lac hk,wid (n:=100+(k:Int)) (by omega) (by omega),wa (by omega)];dsimp only;by_cases hz:Gt l x.Inputs[k] (x.Inputs.take k) []=0
     .rw[if_neg (by omega),if_pos hz];rfl
     .rw[if_pos hz,if_neg hz];rfl) (λ_=>by grind[Zi])
   have l2:da (Xi l x) 0=some (fc () (ff (YE l x) x.Defs.length)):=
    bc (λk=>(k:Int)) _ _ _ (λk hk _=>by
     unfold Xi YE;rw[if_pos (by omega),Ba hk,Jac,Tu (by omega),Jac,Dv (g5 _ (Qac hk)) g3 (by grind),Jac,Lac hk,wid (n:=200+(k:Int)) (by omega) (by omega),wa (by omega)];dsimp only;by_cases hz:Gt l x.Defs[k] x.Inputs (x.Defs.take k)=0
     .rw[if_neg (by omega),if_pos hz];rfl
     .rw[if_pos hz,if_neg hz];rfl) (λ_=>by grind[Xi])
   have l3:da (Wi x (Oq l x)) 0=some (fc () (ff (SH l x) x.Rules.length)):=
    bc (λk=>(k:Int)) _ _ _ (λk hk _=>by
     unfold Wi SH;rw[if_pos (by omega),QD g2 hk (hRu _ (Qac hk)),Jac,Lac hk,wid (n:=300+(k:Int)) (by omega) (by omega),wa (by omega)];dsimp only;by_cases hz:BD x (Oq l x) k x.Rules[k]=0
     .rw[if_neg (by omega),if_pos hz];rfl
     .rw[if_pos hz,if_neg hz];rfl) (λ_=>by grind[Wi])
   have l4:da (Vi x) 0=some (fc () (ff (JD x) x.Defs.length)):=
    bc (λk=>(k:Int)) _ _ _ (λk hk _=>by
     obtain⟨q,q1,q2,q3⟩:=qA g2 (k:Int);unfold Vi JD;rw[if_pos (by omega),q1,Jac,eJ (by omega),Jac,wid (n:=200+(k:Int)) (by omega) (by omega),wa (by omega)];by_cases hz:Way x (k:Int) (k:Int)
     .rw[if_pos (by simp_all),if_pos hz];rfl
     .rw[if_neg (by simp_all),if_neg hz];rfl) (λ_=>by grind[Vi])
   rw[l1,Jac]
   cases ff (GQ l x) x.Inputs.length with
   |some v=>rfl
   |none=>
    simp only[fc];rw[l2,Jac]
    cases ff (YE l x) x.Defs.length with
    |some v=>rfl
    |none=>
     simp only[fc];rw[hS,Jac,l3,Jac]
     cases ff (SH l x) x.Rules.length with
     |some v=>rfl
     |none=>
      simp only[fc];rw[l4,Jac];cases ff (JD x) x.Defs.length<;>rfl
  .rfl
 .rfl
theorem rJ{α β:Type}{f:Nat->Option α}(g:α->β) {n:Nat}:ff (λk=>(f k).map g) n=(ff f n).map g:=by
 cases h1:ff f n with
 |none=>grind[Zb]
 |some v=>grind[Sa]
def qK(i:Nat) (v:Int×Int):GLawError:=⟨v.1,3,(i:Int),v.2⟩
theorem IT{l:GLaw}{x:GScope}{k:Nat}{v:Int×Int}(h:GQ l x k=some v):v.1≠0:=by
 grind[GQ]
theorem uO{l:GLaw}{x:GScope}{k:Nat}{v:Int×Int}(h:YE l x k=some v):v.1≠0:=by
 grind[YE]
theorem lP{l:GLaw}{x:GScope}{k:Nat}{v:Int×Int}(h:SH l x k=some v):v.1≠0:=by
 grind[SH]
theorem SW{x:GScope}{k:Nat}{v:Int×Int}(h:JD x k=some v):v.1≠0:=by
 grind[JD]
theorem vF{f:Nat->Option (Int×Int)}(hf:∀{k v},f k=some v->v.1≠0) {n:Nat}{v:Int×Int}(h:ff f n=some v):v.1≠0:=by
 grind[Sa]
theorem Tz{l:GLaw}(h:LawOk l) {i:Nat}(hi:i<l.Scopes.length):lk l (i:Int)=some (match ff (GQ l l.Scopes[i]) l.Scopes[i].Inputs.length with
 |some v=>qK i v
 |none=>match ff (YE l l.Scopes[i]) l.Scopes[i].Defs.length with
  |some v=>qK i v
  |none=>⟨0,0,0,0⟩):=by
 obtain⟨g1,g2,g3,g4,g5,g6⟩:=h.s _ (Qac hi);unfold lk;rw[Ba hi,Jac];generalize l.Scopes[i]=x at g1 g2 g3 g4 g5 g6⊢;have gd:=g2.defs;have l1:da (Mg l (i:Int) x) 0=some (fc () ((ff (GQ l x) x.Inputs.length).map (qK i))):=by
  rw[←rJ];exact bc (λk=>(k:Int)) _ _ _ (λk hk _=>by
   have hf:=g4 _ (Qac hk);unfold Mg GQ Gt;rw[if_pos (by omega),Ba hk,Jac,Rm (by omega),Jac,Mq g3 (by omega),Jac,Oa,Jac,Lac hk,wid (n:=100+(k:Int)) (by omega) (by omega),wa (by omega)];dsimp only;generalize x.Inputs[k]=f;cases Uj f.Name
   .rfl
   cases (x.Inputs.take k).any λy=>decide (y.Name=f.Name)
   .cases ia f.Type_ l.Enums<;>rfl
   .rfl) (λ_=>by grind[Mg])
 have l2:da (Lg l (i:Int) x) 0=some (fc () ((ff (YE l x) x.Defs.length).map (qK i))):=by
  rw[←rJ];exact bc (λk=>(k:Int)) _ _ _ (λk hk _=>by
   have hf:=g5 _ (Qac hk);unfold Lg YE Gt;rw[if_pos (by omega),Ba hk,Jac,Rm (by omega),Jac,Mq g3 (cad _),Jac,Mq gd (by omega),Oa,Jac,Lac hk,wid (n:=200+(k:Int)) (by omega) (by omega),wa (by omega),dae];dsimp only;generalize x.Defs[k]=f;cases Uj f.Name
   .rfl
   cases x.Inputs.any λy=>decide (y.Name=f.Name)
   .cases (x.Defs.take k).any λy=>decide (y.Name=f.Name)
    .cases ia f.Type_ l.Enums<;>rfl
    .rfl
   .rfl) (λ_=>by grind[Lg])
 grind[fc]
theorem Uz{l:GLaw}(h:LawOk l) {i:Nat}(hi:i<l.Scopes.length):pk l (i:Int)=some (if(vf l i l.Scopes[i]).1=0 then⟨0,0,0,0⟩else qK i (vf l i l.Scopes[i])):=by
 obtain⟨g1,g2,g3,g4,g5,g6⟩:=h.s _ (Qac hi);have hne:=h.ne;have hnt:=h.nt;have hns:=h.ns;have hF:=Tz h hi;have hR:=λ{k:Nat} (hk:k<l.Scopes[i].Rules.length)=>dB h hi hk;unfold pk vf;rw[Ba hi,Jac];generalize l.Scopes[i]=x at g1 g2 g3 g4 g5 g6 hF hR⊢;have gd:=g2.defs;have gr:=g2.rules;rw[Rm (by omega),Jac,Y8 h (by omega),Jac];cases Uj x.Name
 .rfl
 simp only[iad,if_false];cases (l.Enums.any λy=>decide (y.Name=x.Name)) || ((l.Tables.any λy=>decide (y.Name=x.Name)) || (l.Scopes.take i).any λy=>decide (y.Name=x.Name))
 .simp only[Tac,if_false];rw[ZT (l:=l) (x:=x) hi rfl,Jac];cases fw l i x
  .simp only[Tac,if_false];by_cases hI:12<x.Inputs.length
   .rw[if_pos (by omega),if_pos hI];rfl
   rw[if_neg (by omega),if_neg hI];by_cases hD:12<x.Defs.length
   .rw[if_pos (by omega),if_pos hD];rfl
   rw[if_neg (by omega),if_neg hD,hF,Jac];have l3:da (Wf l (i:Int) x) 0=some (fc () ((ff (SH l x) x.Rules.length).map (qK i))):=by
    rw[←rJ];exact bc (λk=>(k:Int)) _ _ _ (λk hk _=>by
     unfold Wf SH;rw[if_pos (by omega),hR hk,Jac,Lac hk,wid (n:=300+(k:Int)) (by omega) (by omega),wa (by omega)];dsimp only;by_cases hz:BD x (Oq l x) k x.Rules[k]=0
     .rw[if_neg (by omega),if_pos hz];rfl
     .rw[if_pos hz,if_neg hz];rfl) (λ_=>by grind[Wf])
   have l4:da (Vf (i:Int) x) 0=some (fc () ((ff (JD x) x.Defs.length).map (qK i))):=by
    rw[←rJ];exact bc (λk=>(k:Int)) _ _ _ (λk hk _=>by
     have q3:=λy=>TO (s:=x) (d:=(k:Int)) (y:=y);have q2:=(EB x (k:Int) x.Defs.length).len;have l5:da (Ng (i:Int) (k:Int) (vz x (k:Int) x.Defs.length)) 0=some (fc () (ff (λj=>if((vz x (k:Int) x.Defs.length)[j]?.any λy=>decide (y=(k:Int)))=true then some (Ex.ret (qK i (9,200+(k:Int))))else none) (vz x (k:Int) x.Defs.length).length)):=
      bc (λj=>(j:Int)) _ _ _ (λj hj _=>by
       unfold Ng;rw[if_pos (by omega),Ba hj,Jac,Lac hj,wid (n:=200+(k:Int)) (by omega) (by omega),wa (by omega)];simp only[eae,decide_eq_true_eq];by_cases he:(vz x (k:Int) x.Defs.length)[j]=(k:Int)
       .rw[if_pos he,if_pos he];rfl
       .rw[if_neg he,if_neg he];rfl) (λ_=>by grind[Ng])
     unfold Vf JD;rw[if_pos (by omega),Rz g2,Jac,l5,Jac,wa (by omega)];have hany:=Jm (l:=vz x (k:Int) x.Defs.length) (q:=λy=>decide (y=(k:Int))) (g:=λ_=>(Ex.ret (qK i (9,200+(k:Int))):Ex Int Unit GLawError))
     cases h2:ff (λj=>if((vz x (k:Int) x.Defs.length)[j]?.any λy=>decide (y=(k:Int)))=true then some (Ex.ret (qK i (9,200+(k:Int))):Ex Int Unit GLawError)else none) (vz x (k:Int) x.Defs.length).length with
     |none=>
      rw[h2]at hany;rw[if_neg]
      .rfl
      grind
     |some v=>
      rw[h2]at hany;obtain⟨y,hy,hyk⟩:=Gaf.1 hany.symm;have:y=(k:Int):=by simp_all
      subst this;rw[if_pos ((q3 _).1 hy)];obtain⟨j,-,j2,-⟩:=Sa.1 h2;split at j2
      .injection j2 with j2;subst j2;rfl
      simp_all) (λ_=>by grind[Vf])
   cases hf1:ff (GQ l x) x.Inputs.length with
   |some v=>
    have:=vF (f:=GQ l x) IT hf1
    simp_all[qK]
   |none=>
    dsimp only
    cases hf2:ff (YE l x) x.Defs.length with
    |some v=>
     have:=vF (f:=YE l x) uO hf2
     simp_all[qK]
    |none=>
     dsimp only;rw[if_neg (by simp),l3]
     cases hf3:ff (SH l x) x.Rules.length with
     |some v=>
      have:=vF (f:=SH l x) lP hf3
      simp_all[fc]
     |none=>
      simp only[Option.map_none,fc,Jac];rw[l4]
      cases hf4:ff (JD x) x.Defs.length with
      |some v=>
       have:=vF (f:=JD x) SW hf4
       simp_all[fc]
      |none=>rfl
  .rfl
 .rfl
noncomputable def ln(l:GLaw):GLawError:=
 if 8<l.Enums.length then⟨4,1,8,0⟩
 else match ff (λi=>match l.Enums[i]? with|some x=>if(Nf l i x).1=0 then none else some (⟨(Nf l i x).1,1,(i:Int),(Nf l i x).2⟩:GLawError)|none=>none) l.Enums.length with
  |some v=>v
  |none=>
   if 8<l.Tables.length then⟨4,2,8,0⟩
   else match ff (λi=>match l.Tables[i]? with|some x=>if(qo l i x).1=0 then none else some (⟨(qo l i x).1,2,(i:Int),(qo l i x).2⟩:GLawError)|none=>none) l.Tables.length with
    |some v=>v
    |none=>
     if 4<l.Scopes.length then⟨4,3,4,0⟩
     else(ff (λi=>match l.Scopes[i]? with|some x=>if(vf l i x).1=0 then none else some (qK i (vf l i x))|none=>none) l.Scopes.length).getD ⟨0,0,0,0⟩
theorem nE{f:Nat->Option GLawError}(hf:∀{k v},f k=some v->v.Code≠0) {n:Nat}{v:GLawError}(h:ff f n=some v):v.Code≠0:=by
 grind[Sa]
theorem bT{l:GLaw}{k:Nat}{v:GLawError}(h:(match l.Enums[k]? with|some x=>if(Nf l k x).1=0 then none else some (⟨(Nf l k x).1,1,(k:Int),(Nf l k x).2⟩:GLawError)|none=>none)=some v):v.Code≠0:=by
 grind
theorem NV{l:GLaw}{k:Nat}{v:GLawError}(h:(match l.Tables[k]? with|some x=>if(qo l k x).1=0 then none else some (⟨(qo l k x).1,2,(k:Int),(qo l k x).2⟩:GLawError)|none=>none)=some v):v.Code≠0:=by
 grind
theorem Qp{l:GLaw}(h:LawOk l):Wk l=some (ln l):=by
 have hne:=h.ne;have hnt:=h.nt;have hns:=h.ns;have le:da (Ui l) 0=some (fc () (ff (λi=>match l.Enums[i]? with|some x=>if(Nf l i x).1=0 then none else some (⟨(Nf l i x).1,1,(i:Int),(Nf l i x).2⟩:GLawError)|none=>none) l.Enums.length)):=
  bc (λk=>(k:Int)) _ _ _ (λk hk _=>by
   unfold Ui;rw[if_pos (by omega),Ba hk,Jac,PD h hk,Jac,Lac hk,wa (by omega)];dsimp only;by_cases hz:(Nf l k l.Enums[k]).1=0
   .rw[if_neg (by omega),if_pos hz];rfl
   .rw[if_pos hz,if_neg hz];rfl) (λ_=>by grind[Ui])
 have ls:da (Fh l) 0=some (fc () (ff (λi=>match l.Scopes[i]? with|some x=>if(vf l i x).1=0 then none else some (qK i (vf l i x))|none=>none) l.Scopes.length)):=
  bc (λk=>(k:Int)) _ _ _ (λk hk _=>by
   unfold Fh;rw[if_pos (by omega),oC h hk,Jac,Lac hk,wa (by omega)];dsimp only;by_cases hz:(vf l k l.Scopes[k]).1=0
   .rw[if_neg (by omega),if_pos hz];rfl
   .rw[if_pos hz,if_neg hz];rfl) (λ_=>by grind[Fh])
 unfold Wk Rp Ao xo ln;by_cases h8:8<l.Enums.length
 .grind
 rw[if_neg (by omega),if_neg h8,le]
 cases hf1:ff (λi=>match l.Enums[i]? with|some x=>if(Nf l i x).1=0 then none else some (⟨(Nf l i x).1,1,(i:Int),(Nf l i x).2⟩:GLawError)|none=>none) l.Enums.length with
 |some v=>
  have:=nE (f:=λi=>match l.Enums[i]? with|some x=>if(Nf l i x).1=0 then none else some (⟨(Nf l i x).1,1,(i:Int),(Nf l i x).2⟩:GLawError)|none=>none) bT hf1
  simp_all[fc]
 |none=>
  simp only[fc,Jac];rw[if_neg (by simp)];by_cases h8:8<l.Tables.length
  .grind
  rw[if_neg (by omega),if_neg h8,JQ h]
  cases hf2:ff (λi=>match l.Tables[i]? with|some x=>if(qo l i x).1=0 then none else some (⟨(qo l i x).1,2,(i:Int),(qo l i x).2⟩:GLawError)|none=>none) l.Tables.length with
  |some v=>
   have:=nE (f:=λi=>match l.Tables[i]? with|some x=>if(qo l i x).1=0 then none else some (⟨(qo l i x).1,2,(i:Int),(qo l i x).2⟩:GLawError)|none=>none) NV hf2
   simp_all[fc]
  |none=>
   simp only[fc,Jac];rw[if_neg (by simp)];by_cases h8:4<l.Scopes.length
   .grind
   rw[if_neg (by omega),if_neg h8,ls];cases ff (λi=>match l.Scopes[i]? with|some x=>if(vf l i x).1=0 then none else some (qK i (vf l i x))|none=>none) l.Scopes.length<;>rfl
theorem FC{l:GLaw}(h:LawOk l):Xm l=some (ln l):=by
 have hne:=h.ne;have hnt:=h.nt;have hns:=h.ns;have le:da (nj l) 0=some (fc () (ff (λi=>match l.Enums[i]? with|some x=>if(Nf l i x).1=0 then none else some (⟨(Nf l i x).1,1,(i:Int),(Nf l i x).2⟩:GLawError)|none=>none) l.Enums.length)):=
  bc (λk=>(k:Int)) _ _ _ (λk hk _=>by
   unfold nj;rw[if_pos (by omega),bB h hk,Jac,Lac hk,wa (by omega)];dsimp only;by_cases hz:(Nf l k l.Enums[k]).1=0
   .rw[if_pos hz,if_neg (by simp),if_pos hz];rfl
   .rw[if_neg hz,if_pos (by omega),if_neg hz];rfl) (λ_=>by grind[nj])
 have lt:da (mj l) 0=some (fc () (ff (λi=>match l.Tables[i]? with|some x=>if(qo l i x).1=0 then none else some (⟨(qo l i x).1,2,(i:Int),(qo l i x).2⟩:GLawError)|none=>none) l.Tables.length)):=
  bc (λk=>(k:Int)) _ _ _ (λk hk _=>by
   unfold mj;rw[if_pos (by omega),Vz h hk,Jac,Lac hk,wa (by omega)];dsimp only;by_cases hz:(qo l k l.Tables[k]).1=0
   .rw[if_pos hz,if_neg (by simp),if_pos hz];rfl
   .rw[if_neg hz,if_pos (by omega),if_neg hz];rfl) (λ_=>by grind[mj])
 have ls:da (lj l) 0=some (fc () (ff (λi=>match l.Scopes[i]? with|some x=>if(vf l i x).1=0 then none else some (qK i (vf l i x))|none=>none) l.Scopes.length)):=
  bc (λk=>(k:Int)) _ _ _ (λk hk _=>by
   unfold lj;rw[if_pos (by omega),Uz h hk,Jac,Lac hk,wa (by omega)];dsimp only;by_cases hz:(vf l k l.Scopes[k]).1=0
   .rw[if_pos hz,if_neg (by simp),if_pos hz];rfl
   .rw[if_neg hz,if_pos (by grind[qK]),if_neg hz];rfl) (λ_=>by grind[lj])
 unfold Xm ln;by_cases h8:8<l.Enums.length
 .grind
 rw[if_neg (by omega),if_neg h8,le]
 cases ff (λi=>match l.Enums[i]? with|some x=>if(Nf l i x).1=0 then none else some (⟨(Nf l i x).1,1,(i:Int),(Nf l i x).2⟩:GLawError)|none=>none) l.Enums.length with
 |some v=>rfl
 |none=>
  simp only[fc,Jac];by_cases h8:8<l.Tables.length
  .grind
  rw[if_neg (by omega),if_neg h8,lt]
  cases ff (λi=>match l.Tables[i]? with|some x=>if(qo l i x).1=0 then none else some (⟨(qo l i x).1,2,(i:Int),(qo l i x).2⟩:GLawError)|none=>none) l.Tables.length with
  |some v=>rfl
  |none=>
   simp only[fc,Jac];by_cases h8:4<l.Scopes.length
   .grind
   rw[if_neg (by omega),if_neg h8,ls];cases ff (λi=>match l.Scopes[i]? with|some x=>if(vf l i x).1=0 then none else some (qK i (vf l i x))|none=>none) l.Scopes.length<;>rfl
structure Valid (l:GLaw):Prop where
 e:∀i (h:i<l.Enums.length),(Nf l i l.Enums[i]).1=0
 t:∀i (h:i<l.Tables.length),(qo l i l.Tables[i]).1=0
 s:∀i (h:i<l.Scopes.length),(vf l i l.Scopes[i]).1=0
 ne:l.Enums.length<=8
 nt:l.Tables.length<=8
 ns:l.Scopes.length<=4
theorem dq{l:GLaw}(h:(ln l).Code=0):Valid l:=by
 unfold ln at h;split at h
 .grind
 rename_i h1;split at h
 .rename_i v hv;exact(nE (f:=λi=>match l.Enums[i]? with|some x=>if(Nf l i x).1=0 then none else some (⟨(Nf l i x).1,1,(i:Int),(Nf l i x).2⟩:GLawError)|none=>none) bT hv h).elim
 rename_i he;split at h
 .grind
 rename_i h2;split at h
 .rename_i v hv;exact(nE (f:=λi=>match l.Tables[i]? with|some x=>if(qo l i x).1=0 then none else some (⟨(qo l i x).1,2,(i:Int),(qo l i x).2⟩:GLawError)|none=>none) NV hv h).elim
 rename_i ht;split at h
 .grind
 rename_i h3;refine⟨λi hi=>?_,λi hi=>?_,λi hi=>?_,by omega,by omega,by omega⟩
 .grind[Zb]
 .grind[Zb]
 .generalize hf:ff _ l.Scopes.length=o at h
  cases o with
  |some v=>
   rw[Qae]at h;obtain⟨k,k1,k2,-⟩:=Sa.1 hf;rw[Lac k1]at k2;dsimp only at k2;split at k2
   .grind
   .rename_i hne;injection k2 with k2;subst k2;exact(hne h).elim
  |none=>
   grind[Zb]
theorem Valid.mem{l:GLaw}(h:Valid l):∀x∈l.Enums,x.Members.length<=16:=by
 intro x hx;obtain⟨i,hi,rfl⟩:=ead hx;have:=h.e i hi
 grind[Nf]
theorem Valid.rows{l:GLaw}(h:Valid l):∀x∈l.Tables,x.Rows.length<=64:=by
 intro x hx;obtain⟨i,hi,rfl⟩:=ead hx;have:=h.t i hi
 grind[qo,bq]
theorem jE{n:Nat}(hn:n<=1048576) (bad:Nat->Bool) {step:Int->Option (Ex Int Unit Bool)}(hstep:∀i:Nat,i<n->step (i:Int)=if bad i=true then some (.ret false)else some (.go (ca .i64 ((i:Int)+1)))) (hend:step (n:Int)=some (.brk ())) :
 (da step 0=some (.inr false))\/(da step 0=some (.inl ())/\∀i,i<n->bad i=false):=by
 have h:=bc (step:=step) (x0:=0) (λi=>(i:Int)) (λi=>if bad i=true then some false else none) n () (λi hi _=>by
  rw[hstep i hi,wa (by omega)];cases bad i<;>rfl) (λ_=>hend)
 cases hf:ff (λi=>if bad i=true then some false else none) n with
 |none=>
  right;rw[hf]at h;refine⟨h,λi hi=>?_⟩
  grind[Zb]
 |some v=>
  left;rw[hf]at h;obtain⟨k,-,k2,-⟩:=Sa.1 hf;split at k2
  .injection k2 with k2;subst k2;exact h
  simp_all
structure SmallSc (s:GScope):Prop where
 nm:s.Name.size<=80
 ins:s.Inputs.length<=14
 defs:s.Defs.length<=14
 rules:s.Rules.length<=60
 i:∀f∈s.Inputs,f.Name.size<=80
 d:∀f∈s.Defs,f.Name.size<=80
 r:∀r∈s.Rules,r.Name.size<=80/\r.Source.size<=80/\r.Guard.length<=50/\r.Value.length<=50
theorem yB(s:GScope):∃b,Fg s=some b/\(b=true->SmallSc s):=by
 unfold Fg;by_cases h1:80<(s.Name.size:Int)
 .simp_all
 by_cases h2:14<(s.Inputs.length:Int)
 .simp_all
 by_cases h3:14<(s.Defs.length:Int)
 .simp_all
 by_cases h4:60<(s.Rules.length:Int)
 .simp_all
 have hc:(if¬80<(s.Name.size:Int)then if¬14<(s.Inputs.length:Int)then if¬14<(s.Defs.length:Int)then some (decide (60<(s.Rules.length:Int)))else some true else some true else some true)=some false:=by
  simp_all
 rw[hc,Jac,if_neg (by simp)];rcases jE (n:=s.Inputs.length) (by omega) (λi=>match s.Inputs[i]? with|some f=>decide (80<(f.Name.size:Int))|none=>false) (step:=ei s) (λi hi=>by
  simp_all[ei,Ba]) (by grind[ei])with k|⟨k,k1⟩
 .simp_all
 rw[k,Jac];dsimp only;rcases jE (n:=s.Defs.length) (by omega) (λi=>match s.Defs[i]? with|some f=>decide (80<(f.Name.size:Int))|none=>false) (step:=di s) (λi hi=>by
  simp_all[di,Ba]) (by grind[di])with k|⟨k,k2⟩
 .simp_all
 rw[k,Jac];dsimp only;rcases jE (n:=s.Rules.length) (by omega) (λi=>match s.Rules[i]? with|some r=>decide (80<(r.Name.size:Int)\/80<(r.Source.size:Int)\/50<(r.Guard.length:Int)\/50<(r.Value.length:Int))|none=>false) (step:=ai s) (λi hi=>by
  unfold ai;rw[if_pos (by omega),Ba hi,Jac,Lac hi]
  grind) (by grind[ai])with k|⟨k,k3⟩
 .simp_all
 rw[k,Jac];refine⟨true,rfl,λ_=>⟨by omega,by omega,by omega,by omega,?_,?_,?_⟩⟩
 .intro f hf;obtain⟨i,hi,rfl⟩:=ead hf
  grind
 .intro f hf;obtain⟨i,hi,rfl⟩:=ead hf
  grind
 .intro r hr;obtain⟨i,hi,rfl⟩:=ead hr
  grind
def Xz(l:GLaw):Nat->Int
 |0=>0
 |k+1=>match l.Tables[k]? with|some t=>ca .i64 (Xz l k+(t.Rows.length:Int))|none=>Xz l k
structure SmallL (l:GLaw):Prop where
 ne:l.Enums.length<=9
 nt:l.Tables.length<=9
 ns:l.Scopes.length<=5
 e:∀x∈l.Enums,x.Name.size<=80/\x.Members.length<=20/\∀m∈x.Members,m.size<=80
 t:∀x∈l.Tables,x.Name.size<=80
 s:∀x∈l.Scopes,SmallSc x
 rt:∀i,i<l.Tables.length->Xz l (i+1)<=150
def Fy(l:GLaw):Nat->Int
 |0=>0
 |k+1=>match l.Scopes[k]? with|some t=>ca .i64 (Fy l k+(t.Rules.length:Int))|none=>Fy l k
def fT(l:GLaw) (i:Nat):Bool:=match l.Enums[i]? with|some x=>decide (80<(x.Name.size:Int)) || decide (20<(x.Members.length:Int)) || (x.Members.any λm=>decide (80<(m.size:Int)))|none=>false
theorem jL{l:GLaw}{i:Nat}(hi:i<l.Enums.length):fT l i=(decide (80<(l.Enums[i].Name.size:Int)) || decide (20<(l.Enums[i].Members.length:Int)) || (l.Enums[i].Members.any λm=>decide (80<(m.size:Int)))):=by
 grind[fT]
theorem Ds(l:GLaw):∃b,Ij l=some b/\(b=true->SmallL l):=by
 unfold Ij;by_cases h1:9<(l.Enums.length:Int)
 .simp_all
 by_cases h2:9<(l.Tables.length:Int)
 .simp_all
 by_cases h3:5<(l.Scopes.length:Int)
 .simp_all
 have hc:(if¬9<(l.Enums.length:Int)then if¬9<(l.Tables.length:Int)then some (decide (5<(l.Scopes.length:Int)))else some true else some true)=some false:=by
  simp_all
 rw[hc,Jac,if_neg (by simp)];have hin:∀i (hi:i<l.Enums.length),l.Enums[i].Members.length<=20->da (mh l (i:Int)) 0=some (if(l.Enums[i].Members.any λm=>decide (80<(m.size:Int)))=true then .inr (.ret false)else .inl ()):=by
  intro i hi hm;have h:=bc (step:=mh l (i:Int)) (x0:=0) (λk=>(k:Int)) (λk=>if(l.Enums[i].Members[k]?.any λm=>decide (80<(m.size:Int)))=true then some (Ex.ret false)else none) l.Enums[i].Members.length () (λk hk _=>by
   unfold mh;rw[Ba hi,Jac,if_pos (by omega),Ba hk,Jac,Lac hk,wa (by omega)];simp only[eae,decide_eq_true_eq];by_cases hb:80<(l.Enums[i].Members[k].size:Int)
   .rw[if_pos hb,if_pos hb];rfl
   .rw[if_neg hb,if_neg hb];rfl) (λ_=>by simp_all[mh,Ba])
  rw[h,←Jm (g:=λ_=>(Ex.ret false:Ex Int Unit Bool))]
  cases hf:ff (λk=>if(l.Enums[i].Members[k]?.any λm=>decide (80<(m.size:Int)))=true then some (Ex.ret false:Ex Int Unit Bool)else none) l.Enums[i].Members.length with
  |none=>rfl
  |some v=>
   obtain⟨k,-,k2,-⟩:=Sa.1 hf;split at k2
   .injection k2 with k2;subst k2;rfl
   simp_all
 rcases jE (n:=l.Enums.length) (by omega) (fT l) (step:=xj l) (λi hi=>by
  have hin:=hin i hi;unfold xj;rw[if_pos (by omega),Ba hi,Jac,jL hi]
  grind) (by grind[xj])with k|⟨k,k1⟩
 .simp_all
 rw[k,Jac];dsimp only;have hT:=bc (step:=wj l) (x0:=(0,0)) (λi=>(Xz l i,(i:Int))) (λi=>match l.Tables[i]? with|some x=>if(decide (80<(x.Name.size:Int)) || decide (150<Xz l (i+1)))=true then some false else none|none=>none) l.Tables.length () (λi hi _=>by
  unfold wj;simp only[Xz,Lac hi];rw[if_pos (by omega),Ba hi,Jac,wa (by omega)]
  grind[mH]) (λ_=>by grind[wj])
 rw[hT,Jac]
 cases hf:ff (λi=>match l.Tables[i]? with|some x=>if(decide (80<(x.Name.size:Int)) || decide (150<Xz l (i+1)))=true then some false else none|none=>none) l.Tables.length with
 |some v=>
  refine⟨false,?_,by simp⟩;obtain⟨j,j1,j2,-⟩:=Sa.1 hf;rw[Lac j1]at j2;dsimp only at j2;split at j2
  .injection j2 with j2;subst j2;rfl
  simp_all
 |none=>
  have ht2:=Zb.1 hf;dsimp only[fc];have hS:=bc (step:=vj l) (x0:=(0,0)) (λi=>(Fy l i,(i:Int))) (λi=>match l.Scopes[i]? with|some x=>if(decide (60<Fy l (i+1)) || !((Fg x).getD true))=true then some false else none|none=>none) l.Scopes.length () (λi hi _=>by
   unfold vj;simp only[Fy,Lac hi];rw[if_pos (by omega),Ba hi,Jac,wa (by omega)];obtain⟨b,hb,-⟩:=yB l.Scopes[i]
   grind[mH]) (λ_=>by grind[vj])
  rw[hS,Jac]
  cases hf2:ff (λi=>match l.Scopes[i]? with|some x=>if(decide (60<Fy l (i+1)) || !((Fg x).getD true))=true then some false else none|none=>none) l.Scopes.length with
  |some v=>
   refine⟨false,?_,by simp⟩;obtain⟨j,j1,j2,-⟩:=Sa.1 hf2;rw[Lac j1]at j2;dsimp only at j2;split at j2
   .injection j2 with j2;subst j2;rfl
   simp_all
  |none=>
   have hs2:=Zb.1 hf2;refine⟨true,rfl,λ_=>⟨by omega,by omega,by omega,?_,?_,?_,λi hi=>?_⟩⟩
   .intro x hx;obtain⟨i,hi,rfl⟩:=ead hx
    grind[jL]
   .intro x hx;obtain⟨i,hi,rfl⟩:=ead hx
    grind
   .intro x hx;obtain⟨i,hi,rfl⟩:=ead hx;have:=hs2 i hi;rw[Lac hi]at this;dsimp only at this;split at this
    .cases this
    .rename_i hn;obtain⟨b,hb,hb2⟩:=yB l.Scopes[i]
     simp_all
   simp_all
def BE(l:GLaw):Prop:=∀s∈l.Scopes,∀r∈s.Rules,(∀n∈r.Guard,Xa n)/\∀n∈r.Value,Xa n
theorem SmallL.ok{l:GLaw}(h:SmallL l) (ht:BE l):LawOk l:=by
 have hne:=h.ne;have hnt:=h.nt;have hns:=h.ns;refine⟨by omega,by omega,by omega,λx hx=>?_,λx hx=>?_,λx hx=>?_⟩
 .obtain⟨a,b,c⟩:=h.e x hx
  grind
 .have:=h.t x hx;omega
 .obtain⟨a,b,c,d,e,f,g⟩:=h.s x hx;refine⟨by omega,⟨by omega,by omega,λr hr=>by grind⟩,by omega,λq hq=>by grind,λq hq=>by grind,λr hr=>?_⟩;have:=g r hr;obtain⟨t1,t2⟩:=ht x hx r hr
  grind
end Go.Proofs.Dev
