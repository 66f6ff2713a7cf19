/-
  The functions as plain partial functions, and plain lemmas about them: no condition.
-/
import Derived.Test.YtjjfnbpfgfopbaaGreatDoorPA
open Bool renaming and_false->Wae,false_and->qae,false_eq_true->Eaa,not_false->jad,not_true->gad,true_and->tac,true_eq_false->sab
open ByteArray renaming empty->Oae,mk->yaa
open Classical renaming not_forall->nae,not_imp->Hae
open Int renaming natAbs_tdiv->Pae,reduceBEq->Baa,reduceEq->uaa,tdiv->Zaa,tdiv_nonneg->Rae,tmod->Dab
open List renaming foldl_cons->eab,getElem?_eq_getElem->naa,getElem_mem->taa,getElem_of_mem->waa,getElem_take->had,length_filter_le->cab,mem_cons->lab,mem_filter->hac,mem_map->Paa,mem_of_mem_drop->Gad,mem_singleton->oab,nodup_cons->vab,pairwise_cons->Wab,range->xaa,replicate->oaa,take_add_one->Raa
open Nat renaming add_zero->pac
open Option renaming bind->laa,bind_some->kaa,getD_some->Nab,isSome_iff_exists->Mac
open Option.some renaming injEq->Vaa
set_option linter.all false
namespace Go.Tm
variable {i b:Nat}
variable {α β ρ σ:Type}
theorem wid{n:Int}(h1:-9223372036854775808<=n) (h2:n<9223372036854775808):aa .i64 n=n:=by
 grind[aa,VD]
theorem va(h:i<4611686018427387904):aa .i64 ((i:Int)+1)=((i+1:Nat):Int):=by
 grind[wid]
theorem Ea{l:List α}(h:i<l.length):idx l (i:Int)=some l[i]:=by
 grind[idx]
theorem MZ{l:List α}:idx l (i:Int)=l[i]?:=by
 simp[idx]
theorem Zn{l:List α}{i:Int}(h1:0<=i) (h2:i<l.length):idx l i=some (l[i.toNat]'(by omega)):=by
 simp_all[idx]
theorem S4{b:ByteArray}(h:i<b.size):Nw b (i:Int)=some (b[i].toNat:Int):=by
 simp_all[Nw]
theorem fw{l:List α}(h:i<=l.length):Fq l (i:Int)=some (l.take i):=by
 simp_all[Fq]
theorem l5{l:List α}(h:i<=l.length):oA l (i:Int)=some (l.drop i):=by
 simp_all[oA]
theorem Kh{l r:List α}(h:(l.length+r.length)*b<=140737488355328):app b l r=some (l++r):=if_pos (by omega)
theorem iA{l:List α}{x:α}(h:i<l.length):put l (i:Int) x=some (l.set i x):=by
 simp_all[put]
theorem LC{n:Nat}{x:α}(h:n*b<=281474976710656) (h2:n<=4611686018427387904):py b x (n:Int) (n:Int)=some (oaa n x):=by
 grind[py]
def ff(f:Nat->Option ρ):Nat->Option ρ
 |0=>none
 |n+1=>match f 0 with|some v=>some v|none=>ff (λi=>f (i+1)) n
theorem sb{f:Nat->Option ρ}:∀{n:Nat},ff f n=none↔∀i,i<n->f i=none
 |0=>by simp[ff]
 |n+1=>by
  simp only[ff];constructor
  .intro h i hi
   cases a:f 0 with
   |some v=>simp_all
   |none=>
    simp only[a]at h
    cases i with
    |zero=>omega
    |succ i=>exact(sb (f:=λi=>f (i+1))).1 h i (by omega)
  .intro h;rw[h 0 (by omega)];exact sb.2 λi hi=>h (i+1) (by omega)
theorem vb{f:Nat->Option ρ}{v:ρ}:∀{n:Nat},ff f n=some v↔∃i,i<n/\f i=some v/\∀j,j<i->f j=none
 |0=>by simp[ff]
 |n+1=>by
  simp only[ff];constructor
  .intro h
   cases b:f 0 with
   |some w=>grind
   |none=>
    simp only[b]at h;obtain⟨i,c,h2,a⟩:=(vb (f:=λi=>f (i+1))).1 h;exact⟨i+1,by omega,h2,λj hj=>by cases j with|zero=>omega|succ j=>simp_all⟩
  .rintro⟨i,c,h2,a⟩
   cases i with
   |zero=>rw[h2]
   |succ i=>
    rw[a 0 (by omega)];exact vb.2 ⟨i,by omega,h2,λj hj=>a (j+1) (by omega)⟩
def fi(b:β):Option ρ->β⊕ρ
 |none=>.inl b
 |some v=>.inr v
def zE(s:σ):Option ρ->Ex σ β ρ
 |none=>.go s
 |some v=>.ret v
theorem mQ{b:β}:fi b (none:Option ρ)=.inl b:=rfl
theorem outR_s{b:β}{v:ρ}:fi b (some v)=.inr v:=rfl
theorem goR_n{s:σ}:(zE s (none:Option ρ):Ex σ β ρ)=.go s:=rfl
theorem lS{s:σ}{v:ρ}:(zE s (some v):Ex σ β ρ)=.ret v:=rfl
theorem kh{step:σ->Option (Ex σ β ρ)}{x0:σ}(S:Nat->σ) (f:Nat->Option ρ) (n:Nat) (b:β)
 (e:∀i,i<n->(∀j,j<i->f j=none)->step (S i)=some (zE (S (i+1)) (f i))) (a:(∀j,j<n->f j=none)->step (S n)=some (.brk b)) (d:x0=S 0:=by rfl) :
 ea step x0=some (fi b (ff f n)):=by
 have key:∀k i,i+k=n->(∀j,j<i->f j=none)->ea step (S i)=some (fi b (ff (λj=>f (i+j)) k)):=by
  intro k
  induction k with
  |zero=>
   intro i hi hf;rw[pac]at hi;subst hi;rw[Va (a hf)];rfl
  |succ k g=>
   intro i hi hf;have c:=e i (by omega) hf;simp only[ff,pac]
   cases d:f i with
   |some v=>
    rw[d]at c;rw[kr c];rfl
   |none=>
    rw[d]at c;rw[Jc c,g (i+1) (by omega) λj hj=>by grind]
    grind
 simp_all
theorem Od{step:σ->Option (Ex σ β ρ)}{x0:σ}(S:Nat->σ) (n:Nat) (b:β) (hgo:∀i,i<n->step (S i)=some (.go (S (i+1)))) (hend:step (S n)=some (.brk b)) (h0:x0=S 0:=by rfl):ea step x0=some (.inl b):=by
 have key:∀k i,i+k=n->ea step (S i)=some (.inl b):=by
  intro k
  induction k with
  |zero=>simp_all[Va]
  |succ k ih=>grind[Jc]
 simp_all
theorem QZ{l:List α}{p:α->Option Bool}(q:α->Bool) (a:∀x∈l,p x=some (q x)) (hl:l.length<4611686018427387904) :
 ea (λ(s:Int)=>if s<(l.length:Int)then(idx l s).bind λx=>(p x).bind λc=>if c=true then some (Ex.ret s)else some (Ex.go (aa .i64 (s+1)))else some (Ex.brk ())) 0
  = some (fi () (ff (λi=>if(l[i]?.any q)=true then some (i:Int)else none) l.length)):=by
 refine kh (λi=>(i:Int)) _ l.length () (λi hi _=>?_) (λ_=>?_)
 .rw[if_pos (by omega),Ea hi,kaa,a _ (taa hi),kaa,wid (by omega) (by omega)]
  grind[zE]
 simp
theorem vK{l:List α}{q:α->Bool}{g:Nat->ρ}:(ff (λi=>if(l[i]?.any q)=true then some (g i)else none) l.length).isSome=l.any q:=by
 rw[Bool.eq_iff_iff,Mac,List.any_eq_true];constructor
 .grind[vb]
 .rintro⟨x,hx,hq⟩;rw[←Mac,←Option.not_isNone,Bool.not_eq_true',Option.isNone_eq_false_iff,Option.isSome_iff_ne_none];intro hn;obtain⟨i,hi,rfl⟩:=waa hx
  grind[sb]
theorem Pq{l:List α}{p:α->Option Bool}(q:α->Bool) (a:∀x∈l,p x=some (q x)) (hl:l.length<4611686018427387904) {o:Option (Unit⊕Int)}
 (ho:o=ea (λ(s:Int)=>if s<(l.length:Int)then(idx l s).bind λx=>(p x).bind λc=>if c=true then some (Ex.ret s)else some (Ex.go (aa .i64 (s+1)))else some (Ex.brk ())) 0) :
 ((o.bind λy=>match y with|.inr v=>some v|.inl _=>some (-1)).bind λx=>some (decide (0<=x)))=some (l.any q):=by
 rw[ho,QZ q a hl];rw[←vK (q:=q) (g:=λi=>(i:Int))]
 cases h:ff (λi=>if(l[i]?.any q)=true then some (i:Int)else none) l.length with
 |none=>simp[fi]
 |some v=>
  grind[fi,vb]
end Go.Tm
set_option maxRecDepth 10000
namespace Go.Proofs.Dev
open Go Go.Tm
variable {s:ByteArray}{op:Int}
def lowB(c:Int):Bool:=decide (97<=c)&&decide (c<=122)
def digB(c:Int):Bool:=decide (48<=c)&&decide (c<=57)
def wordB(c:Int):Bool:=lowB c || digB c || c==95
theorem rQ{a b c:Int}:(laa (if a<=c then some (decide (c<=b))else some false) λj=>some j)=some (decide (a<=c)&&decide (c<=b)):=by
 grind
theorem Yw(c:Int):Jo c=some (lowB c):=rQ
theorem lE(c:Int):Er c=some (digB c):=rQ
def iD(s:ByteArray) (i:Nat):Bool:=if h:i<s.size then wordB (s[i].toNat:Int)else false
def tE(s:ByteArray):Bool:=(ff (λi=>if iD s i=true then none else some ()) s.size).isNone
theorem aA(hs:s.size<4611686018427387904):∃n,qk s=some n/\(n=(s.size:Int)↔tE s=true):=by
 have hstep:∀i:Nat,i<s.size->Ld s (i:Int)=some (if iD s i=true then .go ((i+1:Nat):Int)else .brk (i:Int)):=by
  intro i hi;unfold Ld;rw[if_pos (by omega),S4 hi,kaa];simp only[Yw,lE,kaa,iD,dif_pos hi,wordB]
  grind[wid]
 have w1:∀i,(if iD s i=true then none else some ())=none->iD s i=true:=λi h=>by
  simp_all
 unfold qk
 cases h:ff (λi=>if iD s i=true then none else some ()) s.size with
 |none=>
  have a:=sb.1 h;have hl:ea (Ld s) 0=some (.inl (s.size:Int)):=Od (λi=>(i:Int)) s.size (s.size:Int)
   (λi hi=>by simp_all) (by grind[Ld])
  rw[hl];exact⟨_,rfl,by grind[tE]⟩
 |some v=>
  obtain⟨k,a,h2,h3⟩:=vb.1 h;have hl:ea (Ld s) 0=some (.inl (k:Int)):=Od (λi=>(i:Int)) k (k:Int)
   (λi hi=>by grind) (by
    simp_all)
  rw[hl];exact⟨_,rfl,by grind[tE]⟩
theorem ite_or{p:Prop} [Decidable p] {b:Bool}:(if p then some true else some b)=some (decide p || b):=by
 grind
theorem AQ(s:ByteArray):∃b,di s=some b:=by
 unfold di;simp (config := { maxSteps := 4000000 }) only[ite_or,kaa];simp
noncomputable def resB(s:ByteArray):Bool:=(di s).getD false
theorem BQ(s:ByteArray):di s=some (resB s):=by
 obtain⟨b,h⟩:=AQ s
 grind[resB]
noncomputable def Vs(s:ByteArray):Bool:=if h:0<s.size/\s.size<=16 then lowB (s[0].toNat:Int)&&tE s&&!(resB s)else false
theorem OI:s=yaa #[]↔s.size=0:=by
 constructor
 .rintro rfl;rfl
 .intro h;obtain⟨a⟩:=s;congr 1;exact Array.eq_empty_of_size_eq_zero h
theorem Ep(b:s.size<4611686018427387904):Gb s=some (Vs s):=by
 obtain⟨n,hn,a⟩:=aA b;unfold Gb Vs;by_cases h0:s.size=0
 .simp_all[OI]
 .have hx:Nw s 0=some (s[0].toNat:Int):=S4 (i:=0) (by omega);rw[if_pos (by grind[OI]),hx];simp only[kaa,Yw,hn,a,BQ]
  grind
def ta(t:GType) (e:List GEnum):Bool:=
 if t.Kind=6 then decide (0<=t.Enum)&&decide (t.Enum<(e.length:Int))else decide (1<=t.Kind)&&decide (t.Kind<=5)&&(t.Enum==0)
noncomputable def vtX(t0:GType) (t1:List GEnum):Option Bool:=
 if t0.Kind=6 then
  laa (α:=Bool) (
   if 0<=t0.Enum then
    some (decide (t0.Enum<(t1.length:Int)))
   else
   some false) λa=>
  some a
 else
 laa (α:=Bool) (
  if 1<=t0.Kind then
   if t0.Kind<=5 then
    some (t0.Enum==0)
   else
   some false
  else
  some false) λb=>
 some b
theorem vtX_s(t:GType) (e:List GEnum):vtX t e=some (ta t e):=by
 grind[vtX,ta]
theorem Tb(t:GType) (e:List GEnum):vc t e=some (ta t e):=by
 rw[←vtX_s]
 grind[vc,vtX]
theorem nU(t:GType) (e:List GEnum):∃p,pd t e=some p:=by
 unfold pd;rw[Tb,kaa]
 cases h:ta t e with
 |false=>simp
 |true=>
  simp only[sab,if_false]
  repeat' split
  all_goals first|exact⟨_,rfl⟩|skip
  have a:t.Kind=6:=by
   grind[ta]
  unfold ta at h;rw[if_pos a]at h;simp at h;rw[Zn h.1 h.2];simp
noncomputable def mU(t:GType) (e:List GEnum):Int×Int:=(pd t e).getD (0,0)
theorem Cn(t:GType) (e:List GEnum):pd t e=some (mU t e):=by
 obtain⟨p,hp⟩:=nU t e
 grind[mU]
noncomputable def yV(n:Int) (t:GType) (e:List GEnum):Bool:=decide ((mU t e).1<=n)&&decide (n<=(mU t e).2)
def vrB(r:GDateRange):Bool:=decide (0<=r.From)&&(decide (r.From<=r.To)&&decide (r.To<=109573))
theorem Tp(r:GDateRange):Wc r=some (vrB r):=by
 grind[Wc,vrB]
def zF(a b:GRow):Bool:=vrB a.Valid&&vrB b.Valid&&decide (max a.Valid.From b.Valid.From<min a.Valid.To b.Valid.To)&&decide (max a.Lo b.Lo<min a.Hi b.Hi)
theorem XC(a b:GRow):An a b=some (zF a b):=by
 unfold An Hj Gc zF;simp only[Tp,kaa];cases vrB a.Valid<;>cases vrB b.Valid<;>simp only[Eaa,if_false,if_true,kaa,jad,gad,qae,tac,Wae]
 all_goals grind
noncomputable def cR(x:GRow) (t:GTable) (e:List GEnum):Bool:=
 !(vrB x.Valid) || decide (x.Valid.From=x.Valid.To) || decide (x.Hi<=x.Lo) || !(yV x.Lo t.Key e) || !(yV (aa .i64 (x.Hi-1)) t.Key e) || !(yV x.N t.Value e)
noncomputable def mI(t:GTable) (e:List GEnum) (i:Nat):Option (Int×Int):=
 match t.Rows[i]? with
 |some x=>if cR x t e=true then some ((i:Int),3)else if((t.Rows.take i).any λy=>zF y x)=true then some ((i:Int),11)else none
 |none=>none
noncomputable def jt(t:GTable) (e:List GEnum):Int×Int:=
 if 64<t.Rows.length then(64,4)else if(ta t.Key e&&ta t.Value e)=false then(-1,8)else(ff (mI t e) t.Rows.length).getD (0,0)
theorem RP{l:List GRow}{x:GRow}(hl:l.length<4611686018427387904):∃p,Nb l (λy=>Td y x)=some p/\p.2=l.any λy=>zF y x:=by
 have a:ea (Eb l (λy=>Td y x)) 0=some (fi () (ff (λi=>if(l[i]?.any λy=>zF y x)=true then some ((i:Int),true)else none) l.length)):=
  kh (λi=>(i:Int)) _ l.length () (λi hi _=>by
   unfold Eb;rw[if_pos (by omega),Ea hi,naa hi]
   grind[Td,zE,XC,va]) (λ_=>by grind[Eb])
 unfold Nb;rw[a,←vK (q:=λy=>zF y x) (g:=λi=>((i:Int),true)),kaa]
 cases h:ff (λi=>if(l[i]?.any λy=>zF y x)=true then some ((i:Int),true)else none) l.length with
 |none=>exact⟨_,rfl,rfl⟩
 |some v=>
  obtain⟨k,h1,h2,-⟩:=vb.1 h;refine⟨_,rfl,?_⟩
  grind
theorem WC(t:GTable) (e:List GEnum):yn t e=some (jt t e):=by
 unfold yn jt;by_cases a:64<t.Rows.length
 .grind
 .rw[if_neg (by omega),if_neg a];simp only[Tb,Cn,kaa];have hl:ea (vj t (mU t.Key e) (mU t.Value e)) 0=some (fi () (ff (mI t e) t.Rows.length)):=
   kh (λi=>(i:Int)) _ t.Rows.length () (λi hi _=>by
    unfold vj mI;rw[if_pos (by omega),Ea hi,naa hi];simp only[kaa,Tp];rw[fw (by omega),va (by omega)];obtain⟨p,hp,hp2⟩:=RP (l:=t.Rows.take i) (x:=t.Rows[i]) (by grind)
    grind[cR,yV,zE]) (λ_=>by grind[vj])
  rw[hl];cases ta t.Key e<;>cases ta t.Value e<;>simp only[Eaa,if_false,if_true,kaa,jad,gad,qae,tac,Wae,sab];cases ff (mI t e) t.Rows.length<;>rfl
def Xe(op:Int):Int:=
 if(1<=op/\op<=9)\/(35<=op/\op<=39)then 0
 else if op=10\/op=25\/(31<=op/\op<=34)then 1
 else if op=26 then 3
 else if 11<=op/\op<=30 then 2 else -1
theorem GG(h:1<=op/\op<=39):op=1\/op=2\/op=3\/op=4\/op=5\/op=6\/op=7\/op=8\/op=9\/op=10\/op=11\/op=12\/op=13\/op=14\/op=15\/op=16\/op=17\/op=18\/op=19\/op=20\/op=21\/op=22\/op=23\/op=24\/op=25\/op=26\/op=27\/op=28\/op=29\/op=30\/op=31\/op=32\/op=33\/op=34\/op=35\/op=36\/op=37\/op=38\/op=39:=by omega
theorem kC(h:¬(1<=op/\op<=39)):Xe op = -1:=by
 grind[Xe]
theorem Xn(op:Int):Aj op=some (Xe op):=by
 by_cases h:1<=op/\op<=39
 .rcases GG h with h|h|h|h|h|h|h|h|h|h|h|h|h|h|h|h|h|h|h|h|h|h|h|h|h|h|h|h|h|h|h|h|h|h|h|h|h|h|h<;>subst h<;>simp[Aj,Xe]
 .rw[kC h];unfold Aj;have hn:∀k:Int,1<=k->k<=39->¬op=k:=λk h1 h2 he=>h (by omega);simp[hn]
def Fj(op:Int):Bool:=decide ((1<=op/\op<=8)\/(14<=op/\op<=16)\/(33<=op/\op<=34)\/(36<=op/\op<=39))
theorem kc(h:1<=op/\op<=39):Xm op=some (Fj op):=by
 rcases GG h with h|h|h|h|h|h|h|h|h|h|h|h|h|h|h|h|h|h|h|h|h|h|h|h|h|h|h|h|h|h|h|h|h|h|h|h|h|h|h<;>subst h<;>simp[Xm,Fj]
def kI(k:Int):Bool:=k==2 || k==3 || k==4
theorem Uo(k:Int):ig k=some (kI k):=by
 grind[ig,kI]
noncomputable def Cd(n:GNode) (ops:List GType) (s:GSignature):Option (GType×Int):=
 laa (α:=Bool) (if¬n.N=0 then(Xm n.Op).bind λx=>some (!x)else some false) λj=>if j=true then some ((GType.mk 0 0),2)else Ka n ops s
def Kd(n:GNode):Prop:=-9223372036854775808<=n.N/\n.N<=9223372036854775807
theorem O5{n:Int}{k:Int}(hk:1<=k) (h:-9223372036854775808<=n/\n<=9223372036854775807):aa .i64 (Zaa n k)=Zaa n k:=by
 have h1:(Zaa n k).natAbs<=n.natAbs:=by
  rw[Pae];exact Nat.div_le_self _ _
 by_cases hn:n = -9223372036854775808
 .by_cases a:k=1
  .subst a;subst hn;rfl
  .have:(Zaa n k).natAbs<n.natAbs:=by
    rw[Pae];exact Nat.div_lt_self (by omega) (by omega)
   grind[wid]
 grind[wid]
end Go.Proofs.Dev
set_option maxHeartbeats 1000000
namespace Go.Proofs.Dev
open Go Go.Tm
variable {t a b:GType}{k N op f:Int}{α:Type}{x y:α}{l:List α}{s:GSignature}{i:Nat}{p:List Int}{n:GNode}
theorem lL{e:List GEnum}(h:ta t e=true) (hk:t.Kind≠6):t.Enum=0:=by
 simp_all[ta]
theorem TW{e:List GEnum}(h1:1<=k) (h2:k<=5):ta ⟨k,0⟩ e=true:=by
 grind[ta]
theorem SW{e:List GEnum}:ta ⟨1,0⟩ e=true:=TW (by omega) (by omega)
theorem YQ{e:List GEnum}:ta ⟨2,0⟩ e=true:=TW (by omega) (by omega)
theorem vt_3{e:List GEnum}:ta ⟨3,0⟩ e=true:=TW (by omega) (by omega)
theorem vt_4{e:List GEnum}:ta ⟨4,0⟩ e=true:=TW (by omega) (by omega)
theorem vt_5{e:List GEnum}:ta ⟨5,0⟩ e=true:=TW (by omega) (by omega)
theorem cG:(if¬N=0 then(some true).bind λx=>some (!x)else some false)=some false:=by simp
theorem XR:(if¬N=0 then(some false).bind λx=>some (!x)else some false)=some (!(N==0)):=by
 grind
theorem ZD{Q:α->Prop}:(∃r,some x=some r/\Q r)=Q x:=by simp
theorem BE(d:α) (h0:0<=N) (h1:N<(l.length:Int)):idx l N=some ((l[N.toNat]?).getD d):=by
 grind[Zn]
theorem Xl:idx (x::l) 0=some x:=rfl
theorem YP:idx (x::y::l) 1=some y:=rfl
theorem baa{z:α}:idx (x::y::z::l) 2=some z:=rfl
theorem imp2{u:Bool}(hm:Xm op=some u) (h1:Ka ⟨op,N⟩ [a,b] s=(Ab op [a,b]).bind λx=>if x.2=false then some (⟨0,0⟩,8)else some (x.1,0)) {ok:Bool}
 (hd:Ab op [a,b]=some (t,ok)) (hu:u=true\/N=0):Cd ⟨op,N⟩ [a,b] s=some (if ok=true then(t,0)else(⟨0,0⟩,8)):=by
 unfold Cd
 grind
def lh(e:List GNode) (i:Nat):GNode:=(e[i]?).getD ⟨0,0⟩
theorem Tu{e:List GNode}(h:i<e.length):e[i]=lh e i:=by
 grind[lh]
def Ek(e:List GNode):Nat->List Int×List Int
 |0=>([],[])
 |i+1=>
  let p:=Ek e i
  let a:=(Xe (lh e i).Op).toNat
  let f:=if 0<a then(p.2[p.2.length-a]?).getD 0 else(i:Int)
  (p.1++[f],p.2.take (p.2.length-a)++[f])
theorem QE(e:List GNode):∀i,(Ek e i).1.length=i
 |0=>rfl
 |i+1=>by simp[Ek,QE e i]
def SA(e:List GNode) (i:Nat):Option (List Int×Int×Int):=
 if Xe (lh e i).Op<0 then some ([],(i:Int),2)
 else if((Ek e i).2.length:Int)<Xe (lh e i).Op then some ([],(i:Int),5)
 else if 12<(Ek e (i+1)).2.length then some ([],(i:Int),16)else none
def xq(e:List GNode):List Int×Int×Int:=
 if 48<e.length then([],0,4)else if e.length=0 then([],0,5)
 else match ff (SA e) e.length with
  |some v=>v
  |none=>if 1<(Ek e e.length).2.length then([],(e.length:Int),4)else((Ek e e.length).1,0,0)
theorem Yy{e:List GNode}(h:∀j,j<i->SA e j=none):(Ek e i).2.length<=12:=by
 cases i with
 |zero=>simp[Ek]
 |succ i=>
  have:=h i (by omega)
  grind[SA]
theorem set_mid{n:Nat}(hp:p.length=i) (h:i<n):(p++oaa (n-i) 0).set i f=p++[f]++oaa (n-(i+1)) 0:=by
 obtain⟨k,hk⟩:∃k,n-i=k+1:=⟨n-i-1,by omega⟩;have hk':n-(i+1)=k:=by omega
 simp_all[List.replicate_succ]
theorem kS{r:List Int}(hp:p.length=i):(p++[f]++r)[i]?=some f:=by
 simp_all
theorem br(e:List GNode):Zj e=some (xq e):=by
 unfold Zj xq;by_cases g:48<e.length
 .grind
 rw[if_neg (by omega),if_neg g];by_cases j:e.length=0
 .simp_all
 rw[if_neg (by omega),if_neg j,LC (by omega) (by omega),kaa];have hl:ea (Zi e) (oaa e.length 0,([]:List Int),0)=some (fi ((Ek e e.length).1,(Ek e e.length).2) (ff (SA e) e.length)):=by
  refine kh (λi=>((Ek e i).1++oaa (e.length-i) 0,(Ek e i).2,(i:Int))) (SA e) e.length _ (λi hi hf=>?_) (λ_=>?_) ?_
  .have hs:=Yy hf;have hl:=QE e i;unfold Zi SA;simp only;rw[if_pos (by omega),Ea hi,kaa,Tu hi,Xn,kaa];by_cases ha:Xe (lh e i).Op<0
   .rw[if_pos ha,if_pos ha];rfl
   rw[if_neg ha,if_neg ha];by_cases hb:((Ek e i).2.length:Int)<Xe (lh e i).Op
   .rw[if_pos hb,if_pos hb];rfl
   rw[if_neg hb,if_neg hb];obtain⟨a,c⟩:∃a:Nat,Xe (lh e i).Op=a:=⟨(Xe (lh e i).Op).toNat,by omega⟩;have h:Ek e (i+1)=((Ek e i).1++[if 0<a then((Ek e i).2[(Ek e i).2.length-a]?).getD 0 else(i:Int)],(Ek e i).2.take ((Ek e i).2.length-a)++[if 0<a then((Ek e i).2[(Ek e i).2.length-a]?).getD 0 else(i:Int)]):=by
    grind[Ek]
   have f:aa .i64 (((Ek e i).2.length:Int)-(a:Int))=(((Ek e i).2.length-a:Nat):Int):=by
    grind[wid]
   rw[c,h,f];generalize hS:(Ek e i).2=sk at *;generalize (Ek e i).1=st at *;rw[c]at hb;rw[Ea (i:=i) (by grind),kaa,iA (by grind),kaa,set_mid hl hi,fw (by omega)];by_cases b:0<a
   .have hk:sk.length-a<sk.length:=by omega
    rw[if_pos (by omega),if_pos b,Ea hk,kaa,Ea (i:=i) (by simp_all),kaa,iA (by simp_all),kaa];have d:(st++[(i:Int)]++oaa (e.length-(i+1)) 0).set i sk[sk.length-a]=st++[sk[sk.length-a]]++oaa (e.length-(i+1)) 0:=by
     simp_all
    rw[d,kaa,kaa,naa hk,Nab,MZ,kS hl,kaa];rw[Kh (by grind),kaa];by_cases hd:12<(sk.take (sk.length-a)++[sk[sk.length-a]]).length
    .grind
    .rw[if_neg (by omega),if_neg hd,va (by omega)];rfl
   .rw[if_neg (by omega),if_neg b,kaa,kaa,MZ,kS hl,kaa];rw[Kh (by grind),kaa];by_cases hd:12<(sk.take (sk.length-a)++[(i:Int)]).length
    .rw[if_pos (by omega),if_pos hd];rfl
    .rw[if_neg (by omega),if_neg hd,va (by omega)];rfl
  all_goals grind[Zi,Ek]
 grind[fi]
def WB(n:GNode) (ops:List GType) (s:GSignature):Prop:=∃r,Cd n ops s=some r/\(r.2=0->ta r.1 s.Enums=true)
theorem J1(hk:1<=k/\k<=5) (hn:n.Op=k):WB n [] s:=by
 have hu:=kc (op:=n.Op) (by omega);have hus:Fj n.Op=true:=by grind[Fj]
 have hv:ta ⟨n.Op,0⟩ s.Enums=true:=TW (by omega) (by omega);have a:Cd n [] s=some (if(mU ⟨n.Op,0⟩ s.Enums).1<=n.N/\n.N<=(mU ⟨n.Op,0⟩ s.Enums).2 then(⟨n.Op,0⟩,0)else(⟨0,0⟩,3)):=by
  grind[Ge,mU,Ka,Cd,Cn]
 refine⟨_,a,?_⟩
 grind
theorem nod1_6(hN:Kd ⟨6,N⟩):WB ⟨6,N⟩ [] s:=by
 have w:=O5 (n:=N) (k:=16) (by omega) hN;have hu:=kc (op:=6) (by omega);have c:Fj 6=true:=rfl;unfold WB Cd Ka Cr;simp only[w,hu,c,cG];by_cases a:0<=N
 .have hd:0<=Zaa N 16:=Rae a (by omega);by_cases b:Zaa N 16<(s.Enums.length:Int)
  .rw[BE ⟨Oae,[]⟩ hd b];have hv:ta ⟨6,Zaa N 16⟩ s.Enums=true:=by grind[ta]
   generalize (s.Enums[(Zaa N 16).toNat]?).getD ⟨Oae,[]⟩=m;have e1:¬N<0:=by omega
   have e2:¬(s.Enums.length:Int)<=Zaa N 16:=by omega
   by_cases h2:Dab N 16<(m.Members.length:Int)
   .have e3:¬(m.Members.length:Int)<=Dab N 16:=by omega
    simp[a,b,h2,hv,e1,e2,e3,ZD,-Prod.exists]
   .have e3:(m.Members.length:Int)<=Dab N 16:=by omega
    simp[a,b,h2,hv,e1,e2,e3,ZD,-Prod.exists]
  .have e1:¬N<0:=by omega
   have e2:(s.Enums.length:Int)<=Zaa N 16:=by omega
   simp[a,b,e1,e2,ZD,-Prod.exists]
 simp_all
theorem nod1_7:WB ⟨7,N⟩ [] s:=by
 have hu:=kc (op:=7) (by omega);have a:Fj 7=true:=rfl;unfold WB Cd Ka me;simp only[hu,a,Tb,cG];by_cases b:0<=N
 .have e1:¬N<0:=by omega
  by_cases c:N<(s.Inputs.length:Int)
  .rw[BE ⟨0,0⟩ b c];generalize (s.Inputs[N.toNat]?).getD ⟨0,0⟩=t;obtain⟨e,d⟩:=t;have e2:¬(s.Inputs.length:Int)<=N:=by omega
   cases hv:ta ⟨e,d⟩ s.Enums<;>simp[b,c,hv,e1,e2,ZD,-Prod.exists]
  simp_all
 simp_all
theorem nod1_8:WB ⟨8,N⟩ [] s:=by
 have hu:=kc (op:=8) (by omega);have a:Fj 8=true:=rfl;unfold WB Cd Ka me;simp only[hu,a,Tb,cG];by_cases b:0<=N
 .have e1:¬N<0:=by omega
  by_cases c:N<(s.Defs.length:Int)
  .rw[BE ⟨0,0⟩ b c];generalize (s.Defs[N.toNat]?).getD ⟨0,0⟩=t;obtain⟨e,d⟩:=t;have e2:¬(s.Defs.length:Int)<=N:=by omega
   cases hv:ta ⟨e,d⟩ s.Enums<;>simp[b,c,hv,e1,e2,ZD,-Prod.exists]
  simp_all
 simp_all
theorem nod1_9:WB ⟨9,N⟩ [] s:=by
 have hu:=kc (op:=9) (by omega);have a:Fj 9=false:=rfl;unfold WB Cd Ka;simp only[hu,a,XR];cases N==0<;>simp[vt_5,ZD,-Prod.exists]
theorem nod1_35:WB ⟨35,N⟩ [] s:=by
 have hu:=kc (op:=35) (by omega);have a:Fj 35=false:=rfl;unfold WB Cd Ka Fi;simp only[hu,a,XR];cases hm:s.HasMembers<;>cases N==0<;>simp[YQ,ZD,-Prod.exists]
theorem K1(h:36<=op/\op<=39):WB ⟨op,N⟩ [] s:=by
 have hu:=kc (op:=op) (by omega);have e:Fj op=true:=by grind[Fj]
 unfold WB Cd Ka Fi me;simp only[hu,e,Tb,Uo,cG];cases c:s.HasMembers
 .rcases(by omega:op=36\/op=37\/op=38\/op=39)with h|h|h|h<;>subst h<;>simp[c,ZD,-Prod.exists]
 .by_cases b:0<=N
  .have e1:¬N<0:=by omega
   by_cases d:N<(s.MemberDefs.length:Int)
   .rw[BE ⟨0,0⟩ b d];generalize (s.MemberDefs[N.toNat]?).getD ⟨0,0⟩=t;obtain⟨a,i⟩:=t;have e2:¬(s.MemberDefs.length:Int)<=N:=by omega
    cases hv:ta ⟨a,i⟩ s.Enums
    .rcases(by omega:op=36\/op=37\/op=38\/op=39)with h|h|h|h<;>subst h<;>simp[c,b,d,hv,e1,e2,ZD,-Prod.exists]
    .rcases(by omega:op=36\/op=37\/op=38\/op=39)with h|h|h|h<;>subst h<;>simp only[c,b,d,hv,e1,e2,kaa,if_true,if_false,not_true_eq_false,not_false_eq_true,decide_false,decide_true,Eaa,sab,uaa,beq_self_eq_true,Baa]
     .by_cases g:a=2<;>by_cases k3:a=3<;>simp[g,k3,hv,ZD,-Prod.exists]<;>simp_all
     .by_cases f:a=1<;>simp[f,hv,ZD,-Prod.exists]<;>simp_all
     .by_cases f:a=1<;>simp[f,hv,ZD,-Prod.exists]<;>simp_all
     .cases kI a<;>by_cases k5:a=5<;>simp[k5,hv,ZD,-Prod.exists]<;>simp_all
   .have e2:(s.MemberDefs.length:Int)<=N:=by omega
    rcases(by omega:op=36\/op=37\/op=38\/op=39)with h|h|h|h<;>subst h<;>simp[c,b,d,e1,e2,ZD,-Prod.exists]
  .have e1:N<0:=by omega
   rcases(by omega:op=36\/op=37\/op=38\/op=39)with h|h|h|h<;>subst h<;>simp[c,b,e1,ZD,-Prod.exists]
theorem L1(d:op=10\/op=25\/op=31\/op=32) (ha:ta a s.Enums=true):WB ⟨op,N⟩ [a] s:=by
 have hu:=kc (op:=op) (by omega);have e:Fj op=false:=by grind[Fj]
 unfold WB Cd Ka Ab;simp only[hu,e,XR,Uo];obtain⟨c,ae⟩:=a;rcases d with h|h|h|h<;>subst h<;>cases N==0
 .simp
 .cases hn:kI c<;>simp[Xl,hn,ha,ZD,-Prod.exists]
 .simp
 .by_cases b:c=1
  .subst b;have:=lL ha (by simp)
   simp_all[Xl]
  simp_all[Xl]
 .simp
 .by_cases b:c=5<;>simp[Xl,b,YQ,ZD,-Prod.exists]
 .simp
 .by_cases b:c=5<;>simp[Xl,b,YQ,ZD,-Prod.exists]
theorem nod1_33(ha:ta a s.Enums=true):WB ⟨33,N⟩ [a] s:=by
 have hu:=kc (op:=33) (by omega);have d:Fj 33=true:=rfl;unfold WB Cd Ka Ym;simp only[hu,d,Tb,cG];by_cases b:0<=N
 .have e1:¬N<0:=by omega
  by_cases c:N<(s.Tables.length:Int)
  .obtain⟨t,ht⟩:∃t,idx s.Tables N=some t:=⟨_,Zn b c⟩;have e2:¬(s.Tables.length:Int)<=N:=by omega
   cases hk:ta t.Key s.Enums
   .simp[Xl,ht,b,c,e1,e2,hk,ZD,-Prod.exists]
   .cases hv:ta t.Value s.Enums
    .simp[Xl,ht,b,c,e1,e2,hk,hv,ZD,-Prod.exists]
    .by_cases e:a.Kind=t.Key.Kind<;>by_cases f:a.Enum=t.Key.Enum<;>simp[Xl,ht,b,c,e1,e2,hk,hv,e,f,ZD,-Prod.exists]
  simp_all[Xl]
 .have e1:N<0:=by omega
  have e3:¬N<(s.Tables.length:Int)\/N<(s.Tables.length:Int):=by omega
  simp[Xl,b,e1,ZD,-Prod.exists]
theorem nod1_34(hN:Kd ⟨34,N⟩) (ha:ta a s.Enums=true):WB ⟨34,N⟩ [a] s:=by
 have hu:=kc (op:=34) (by omega);have j:Fj 34=true:=rfl;have w:=O5 (n:=N) (k:=8) (by omega) hN;unfold WB Cd Ka Ym ck;simp only[hu,j,Tb,cG,w];by_cases g:0<=N
 .have e1:¬N<0:=by omega
  have hd:0<=Zaa N 8:=Rae g (by omega);have d:0<=Dab N 8:=Int.tmod_nonneg _ g;have e3:¬Zaa N 8<0:=by omega
  by_cases v:Dab N 8<=5
  .by_cases u:Zaa N 8<(s.Tables.length:Int)
   .obtain⟨t,ht⟩:∃t,idx s.Tables (Zaa N 8)=some t:=⟨_,Zn hd u⟩;have e2:¬(s.Tables.length:Int)<=Zaa N 8:=by omega
    obtain⟨_,⟨o,m⟩,⟨q,p⟩,_⟩:=t;obtain⟨f,r⟩:=a;simp only[Xl,ht,g,u,e1,e2,e3,d,v,kaa,if_true,if_false,not_true_eq_false,not_false_eq_true,decide_false,decide_true,Eaa,sab,uaa,beq_self_eq_true,Baa,gad,jad];by_cases h:o=3
    .subst h;by_cases i:m=0
     .subst i;rw[show ta ⟨3,0⟩ s.Enums=true from vt_3];by_cases e:q=4
      .subst e;by_cases l:p=0
       .subst l;rw[show ta ⟨4,0⟩ s.Enums=true from vt_4];by_cases b:f=3
        .subst b;have:=lL ha (by simp)
         simp_all
        simp_all
       simp_all[ta]
      .cases ta ⟨q,p⟩ s.Enums<;>by_cases b:f=3<;>by_cases c:r=0<;>simp[b,c,e,ZD,-Prod.exists]
     simp_all[ta]
    .cases ta ⟨o,m⟩ s.Enums<;>cases ta ⟨q,p⟩ s.Enums<;>by_cases b:f=3<;>by_cases hak:f=o<;>by_cases c:r=m<;>simp_all[ZD,-Prod.exists]
   simp_all[Xl]
  simp_all[Xl]
 simp_all[Xl]
theorem nod1_26{c:GType}(hb:ta b s.Enums=true):WB ⟨26,N⟩ [a,b,c] s:=by
 have hu:=kc (op:=26) (by omega);have d:Fj 26=false:=rfl;unfold WB Cd Ka Ab;simp only[hu,d,XR];obtain⟨bk,be⟩:=b;cases N==0
 .simp
 .by_cases e:a.Kind=1<;>by_cases f:bk=c.Kind<;>by_cases k3:be=c.Enum<;>simp[Xl,YP,baa,e,f,k3,ZD,-Prod.exists]
  simp_all
theorem two_of1(hop:(11<=op/\op<=24)\/(27<=op/\op<=30)) {ok:Bool}{t':GType}(d:Ab op [a,b]=some (t',ok)) (ht:ok=true->ta t' s.Enums=true) :
 WB ⟨op,N⟩ [a,b] s:=by
 have hu:=kc (op:=op) (by omega);have hr:(14<=op/\op<=16)/\Ka ⟨op,N⟩ [a,b] s=(if(decide (0<=N)&&decide (N<=5))=true then(Ab op [a,b]).bind λx=>if x.2=false then some (⟨0,0⟩,8)else some (x.1,0)else some (⟨0,0⟩,3))\/
  ¬(14<=op/\op<=16)/\Ka ⟨op,N⟩ [a,b] s=((Ab op [a,b]).bind λx=>if x.2=false then some (⟨0,0⟩,8)else some (x.1,0)):=by
  clear d ht hu;by_cases h:14<=op/\op<=16
  .refine .inl ⟨h,?_⟩
   .unfold Ka ck;simp only[rQ];rcases(by omega:op=14\/op=15\/op=16)with h|h|h<;>subst h<;>by_cases g1:0<=N<;>by_cases g2:N<=5<;>simp[g1,g2]
  .refine .inr ⟨h,?_⟩
   .unfold Ka;rcases(by omega:op=11\/op=12\/op=13\/op=17\/op=18\/op=19\/op=20\/op=21\/op=22\/op=23\/op=24\/op=27\/op=28\/op=29\/op=30)with h|h|h|h|h|h|h|h|h|h|h|h|h|h|h<;>subst h<;>simp
 have fin:∀(e:Fj op=true\/N=0),Ka ⟨op,N⟩ [a,b] s=((Ab op [a,b]).bind λx=>if x.2=false then some (⟨0,0⟩,8)else some (x.1,0))->WB ⟨op,N⟩ [a,b] s:=by
  intro e h2;unfold WB;rw[imp2 hu h2 d e]
  grind
 rcases hr with⟨h,h2⟩|⟨h,h2⟩
 .have c:Fj op=true:=by grind[Fj]
  by_cases hN:(decide (0<=N)&&decide (N<=5))=true
  .simp_all
  .rw[Bool.not_eq_true]at hN;rw[hN,if_neg (by simp)]at h2;unfold WB Cd
   simp_all
 .have c:Fj op=false:=by grind[Fj]
  by_cases hN:N=0
  .simp_all
  .unfold WB Cd
   simp_all
theorem N1(hop:(11<=op/\op<=24)\/(27<=op/\op<=30)) (ha:ta a s.Enums=true):WB ⟨op,N⟩ [a,b] s:=by
 have i:∀k,1<=k->k<=5->a.Kind=k->a.Enum=0:=λk g h2 h=>lL ha (by omega);obtain⟨d,f⟩:=a;obtain⟨bk,be⟩:=b;simp only at i;have hr:∃t' ok,Ab op [⟨d,f⟩,⟨bk,be⟩]=some (t',ok)/\(ok=true->ta t' s.Enums=true):=by
  unfold Ab Yn;simp only[Xl,YP,Uo];rcases(by omega:op=11\/op=12\/op=13\/op=14\/op=15\/op=16\/op=17\/op=18\/op=19\/op=20\/op=21\/op=22\/op=23\/op=24\/op=27\/op=28\/op=29\/op=30)with h|h|h|h|h|h|h|h|h|h|h|h|h|h|h|h|h|h<;>subst h
  .by_cases c:d=bk/\f=be
   .cases hn:kI d<;>simp[c,hn,ha]
    all_goals grind
   .simp[c]
  .by_cases c:d=bk/\f=be
   .cases hn:kI d<;>simp[c,hn,ha]
    all_goals grind
   .simp[c]
  .by_cases c:bk=2<;>by_cases e:d=2<;>by_cases k3:d=3<;>simp[c,e,k3,YQ,vt_3]
  .by_cases c:bk=4<;>by_cases e:d=3<;>by_cases k3:d=4<;>simp[c,e,k3,vt_4,vt_3]
  .by_cases c:bk=2<;>by_cases e:d=2<;>by_cases k3:d=3<;>by_cases k4:bk=3<;>simp[c,e,k3,k4,YQ,vt_3,vt_4]
   all_goals simp_all
  .by_cases c:d=3<;>by_cases e:bk=3<;>simp[c,e]
   simp_all
  .by_cases c:d=bk/\f=be
   .cases hn:kI d<;>by_cases k5:d=5<;>simp[c,hn,k5,ha]
    all_goals grind
   .simp[c]
  .by_cases c:d=bk/\f=be
   .cases hn:kI d<;>by_cases k5:d=5<;>simp[c,hn,k5,ha]
    all_goals grind
   .simp[c]
  .by_cases c:d=bk<;>by_cases e:f=be<;>simp[c,e,SW]
  .by_cases c:d=bk<;>by_cases e:f=be<;>simp[c,e,SW]
  .by_cases c:d=bk/\f=be
   .cases hn:kI d<;>by_cases k5:d=5<;>simp[c,hn,k5,SW]
    all_goals grind[SW]
   .simp[c]
  .by_cases c:d=bk/\f=be
   .cases hn:kI d<;>by_cases k5:d=5<;>simp[c,hn,k5,SW]
    all_goals grind[SW]
   .simp[c]
  .by_cases c:d=1<;>by_cases e:bk=1<;>simp[c,e]
   grind
  .by_cases c:d=1<;>by_cases e:bk=1<;>simp[c,e]
   grind
  .by_cases c:d=5<;>by_cases e:bk=2<;>simp[c,e]
   simp_all
  .by_cases c:d=5<;>by_cases e:bk=2<;>simp[c,e]
   simp_all
  .by_cases c:d=5<;>by_cases e:bk=5<;>simp[c,e,YQ]
  .by_cases c:d=5<;>by_cases e:bk=5<;>simp[c,e,YQ]
 obtain⟨t',ok,g,h3⟩:=hr
 grind[two_of1]
theorem MS{ops:List GType}(e:1<=n.Op/\n.Op<=39) (hN:Kd n) (d:(ops.length:Int)=Xe n.Op) (hv:∀t∈ops,ta t s.Enums=true):WB n ops s:=by
 obtain⟨op,N⟩:=n;simp only at e d;unfold Xe at d;by_cases f:(1<=op/\op<=9)\/(35<=op/\op<=39)
 .rw[if_pos f]at d;obtain rfl:ops=[]:=List.eq_nil_of_length_eq_zero (by omega);rcases(by omega:(1<=op/\op<=5)\/op=6\/op=7\/op=8\/op=9\/op=35\/(36<=op/\op<=39))with h|h|h|h|h|h|h
  .exact J1 h rfl
  all_goals grind[nod1_6,nod1_7,nod1_8,nod1_9,nod1_35,K1]
 rw[if_neg f]at d;by_cases g:op=10\/op=25\/(31<=op/\op<=34)
 .rw[if_pos g]at d;obtain⟨a,rfl⟩:∃a,ops=[a]:=by
   match ops,d with
   |[a],_=>simp
  have ha:=hv a (by simp);rcases(by omega:(op=10\/op=25\/op=31\/op=32)\/op=33\/op=34)with h|h|h
  all_goals grind[L1,nod1_33,nod1_34]
 rw[if_neg g]at d;by_cases h2:op=26
 .rw[if_pos h2]at d;obtain⟨a,b,c,rfl⟩:∃a b c,ops=[a,b,c]:=by
   match ops,d with
   |[a,b,c],_=>simp
  grind[nod1_26]
 rw[if_neg h2,if_pos (by omega)]at d;obtain⟨a,b,rfl⟩:∃a b,ops=[a,b]:=by
  match ops,d with
  |[a,b],_=>simp
 grind[N1]
def Am(e:List GNode) (i:Nat):Nat:=(Xe (lh e i).Op).toNat
noncomputable def TG(e:List GNode) (s:GSignature) (st:List GType) (i:Nat):GType×Int:=(Cd (lh e i) (st.drop (st.length-Am e i)) s).getD (⟨0,0⟩,0)
noncomputable def Az(e:List GNode) (s:GSignature):Nat->List GType
 |0=>[]
 |i+1=>(Az e s i).take ((Az e s i).length-Am e i)++[(TG e s (Az e s i) i).1]
noncomputable def qH(e:List GNode) (s:GSignature) (i:Nat):Option (GType×Int×Int):=
 if(TG e s (Az e s i) i).2=0 then none else some (⟨0,0⟩,(i:Int),(TG e s (Az e s i) i).2)
noncomputable def cx(e:List GNode) (s:GSignature):GType×Int×Int:=
 if(xq e).2.2=0 then(match ff (qH e s) e.length with|some v=>v|none=>((Az e s e.length)[0]?.getD ⟨0,0⟩,0,0))else(⟨0,0⟩,(xq e).2.1,(xq e).2.2)
structure Wst (e:List GNode):Prop where
 pos:0<e.length
 le:e.length<=48
 err:∀i,i<e.length->SA e i=none
 one:(Ek e e.length).2.length<=1
variable {e:List GNode}
theorem nL(h:(xq e).2.2=0):Wst e:=by
 unfold xq at h;split at h
 .grind
 split at h
 .grind
 rename_i h48 h0;split at h
 .grind[SA,vb]
 .rename_i hn;split at h
  .grind
  .exact⟨by omega,by omega,sb.1 hn,by omega⟩
theorem Wst.ar(h:Wst e) (hi:i<e.length):0<=Xe (lh e i).Op/\Am e i<=(Ek e i).2.length/\(1<=(lh e i).Op/\(lh e i).Op<=39):=by
 have:=h.err i hi
 grind[SA,Am,kC]
theorem TN:(Ek e (i+1)).2.length=(Ek e i).2.length-Am e i+1:=by
 simp[Ek,Am]
theorem ndOk(hN:∀n∈e,Kd n) (hi:i<e.length):Kd (lh e i):=by
 rw[←Tu hi];simp_all
theorem TE{e:List GNode}{s:GSignature}(h:Wst e) (hN:∀n∈e,Kd n):∀i,i<=e.length->(∀j,j<i->qH e s j=none)->(Az e s i).length=(Ek e i).2.length/\∀t∈Az e s i,ta t s.Enums=true
 |0,_,_=>by simp[Az,Ek]
 |i+1,hi,ht=>by
  obtain⟨h1,h2⟩:=TE h hN i (by omega) λj hj=>ht j (by omega);obtain⟨a1,a2,a3⟩:=h.ar (i:=i) (by omega);refine⟨by grind[Az,TN],?_⟩;intro t hm;simp only[Az,List.mem_append,oab]at hm;rcases hm with hm|rfl
  .grind
  .obtain⟨r,hr,hv⟩:=MS (n:=lh e i) (ops:=(Az e s i).drop ((Az e s i).length-Am e i)) (s:=s) a3 (ndOk hN (by omega)) (by grind[Am]) (λt ht=>h2 t (Gad ht));have hz:=ht i (by omega)
   grind[qH,TG]
theorem pN(h:Wst e) (hN:∀n∈e,Kd n) (hi:i<e.length) (ht:∀j,j<i->qH e s j=none) :
 Cd (lh e i) ((Az e s i).drop ((Az e s i).length-Am e i)) s=some (TG e s (Az e s i) i):=by
 obtain⟨h1,h2⟩:=TE h hN i (by omega) ht;obtain⟨a1,a2,a3⟩:=h.ar hi;obtain⟨r,hr,hv⟩:=MS (n:=lh e i) (ops:=(Az e s i).drop ((Az e s i).length-Am e i)) (s:=s) a3 (ndOk hN hi) (by grind[Am]) (λt ht=>h2 t (Gad ht))
 grind[TG]
theorem XH(hN:∀n∈e,Kd n) (s:GSignature):Yr e s=some (cx e s):=by
 unfold Yr cx;rw[br,kaa];by_cases f:(xq e).2.2=0
 .rw[if_neg (by omega),if_pos f];have hw:=nL f;have hl:ea (Wm e s) (([]:List GType),0)=some (fi (Az e s e.length) (ff (qH e s) e.length)):=by
   refine kh (λi=>(Az e s i,(i:Int))) (qH e s) e.length _ (λi hi ht=>?_) (λ_=>?_)
   .have a:=pN hw hN hi ht;obtain⟨g,h2⟩:=TE hw hN i (by omega) ht;obtain⟨a1,a2,a3⟩:=hw.ar hi;have hle:=hw.le;have h12:=Yy (e:=e) (i:=i) λj hj=>hw.err j (by omega);unfold Wm qH;simp only;have b:aa .i64 (((Az e s i).length:Int)-Xe (lh e i).Op)=(((Az e s i).length-Am e i:Nat):Int):=by
     grind[Am,wid]
    rw[if_pos (by omega),Ea hi,kaa,Tu hi];unfold Cd at a;rw[kc a3]at a⊢;have hj:(if¬(lh e i).N=0 then(some (Fj (lh e i).Op)).bind λh=>some (!h)else some false)=some (!(lh e i).N==0&&!Fj (lh e i).Op):=by
     grind
    rw[hj]at a⊢;rw[kaa]at a⊢;generalize (!(lh e i).N==0&&!Fj (lh e i).Op)=c at a⊢;cases c
    .rw[if_neg (by simp)]at a⊢;rw[Xn,kaa,b,l5 (by omega),kaa,a,kaa];by_cases d:(TG e s (Az e s i) i).2=0
     .rw[if_neg (by omega),if_pos d,fw (by omega),kaa,Kh (by grind),kaa,va (by omega)];rfl
     .rw[if_pos d,if_neg d];rfl
    .rw[if_pos rfl]at a⊢;injection a with a;rw[←a,if_neg (by decide)];rfl
   grind[Wm]
  rw[hl]
  cases hf:ff (qH e s) e.length with
  |some v=>rfl
  |none=>
   obtain⟨g,h2⟩:=TE (s:=s) hw hN e.length (by omega) (sb.1 hf);have:0<(Az e s e.length).length:=by
    rw[g];obtain⟨k,hk⟩:∃k,e.length=k+1:=⟨e.length-1,by have:=hw.pos;omega⟩
    grind[TN]
   simp only[fi,kaa];rw[show(0:Int)=((0:Nat):Int)from rfl,Ea this,kaa,naa this];rfl
 simp_all
end Go.Proofs.Dev
namespace Go.Tm
theorem ny{x n:Int}:∀{l:List Int},x∈Iw l n↔x∈l\/x=n
 |[]=>by simp[Iw]
 |y::l=>by
  simp only[Iw];split
  .grind
  .simp only[lab,ny (l:=l)];grind
abbrev uO(l:List Int):Prop:=l.Pairwise (·<·)
theorem lG{n:Int}:∀{l:List Int},uO l->uO (Iw l n)
 |[],_=>by simp[Iw]
 |y::l,h=>by
  have h':=Wab.1 h;simp only[Iw];split
  .split
   .refine Wab.2 ⟨λz a=>?_,h⟩
    grind
   omega
  .refine Wab.2 ⟨λz a=>?_,lG h'.2⟩;rcases ny.1 a with a|rfl
   all_goals simp_all
theorem VM{n:Int}:∀{l:List Int},(Iw l n).length<=l.length+1
 |[]=>by simp[Iw]
 |y::l=>by
  simp only[Iw];split
  .grind
  .have:=VM (n:=n) (l:=l);simp_all
theorem sG{α A β ρ:Type}{step:A×Int->Option (Ex (A×Int) β ρ)}(xs:List α) (f:A->α->A) (a0:A) (b:β) {x0:A×Int}(hx:x0=(a0,0))
 (hgo:∀(i:Nat) (hi:i<xs.length),step ((xs.take i).foldl f a0,(i:Int))=some (.go (f ((xs.take i).foldl f a0) xs[i],((i+1:Nat):Int)))) (hend:step (xs.foldl f a0,(xs.length:Int))=some (.brk b)) :
 ea step x0=some (.inl b):=by
 refine Od (λi=>((xs.take i).foldl f a0,(i:Int))) xs.length b (λi hi=>?_) ?_ (by simp_all)
 all_goals grind[Raa]
end Go.Tm
namespace Go.Proofs.Dev
open Go Go.Tm
end Go.Proofs.Dev
namespace Go.Tm
theorem Ig(l:List Int):uO (wg l)/\(wg l).length<=l.length/\∀x,x∈wg l↔x∈l:=by
 have key:∀(l a:List Int),uO a->uO (l.foldl Iw a)/\(l.foldl Iw a).length<=a.length+l.length/\∀x,x∈l.foldl Iw a↔x∈a\/x∈l:=by
  intro l
  induction l with
  |nil=>simp
  |cons y l d=>
   intro a h;obtain⟨b,h2,c⟩:=d (Iw a y) (lG h);have:=VM (n:=y) (l:=a);refine⟨b,by grind,λx=>?_⟩
   simp_all[eab,ny,lab,or_assoc]
 obtain⟨b,h2,c⟩:=key l [] (by simp)
 grind[wg]
theorem DE{lo hi:Int}:∀{a:List Int},uO a->(∀x∈a,lo<=x/\x<hi)->a.length<=(hi-lo).toNat
 |[],_,_=>by simp
 |x::a,h,hb=>by
  have h':=Wab.1 h;have hx:=hb x (by simp);have:=DE (lo:=x+1) (hi:=hi) h'.2 λy hy=>⟨by grind,(hb y (by grind)).2⟩
  grind
theorem CE:∀{a b:List Int},uO a->uO b->(∀x,x∈a↔x∈b)->a=b
 |[],[],_,_,_=>rfl
 |[],y::b,_,_,h=>by have:=(h y).2 (by simp);simp_all
 |x::a,[],_,_,h=>by have:=(h x).1 (by simp);simp_all
 |x::a,y::b,ha,hb,h=>by
  have c:=Wab.1 ha;have d:=Wab.1 hb;have e:x=y:=by
   have h1:=(h x).1 (by simp);have h2:=(h y).2 (by simp)
   grind
  subst e;rw[CE c.2 d.2 λz=>?_]
  grind
end Go.Tm
namespace Go.Proofs.Dev
open Go Go.Tm
variable {p:GNode->Bool}{e:List GNode}{l a:List Int}{x n d:Int}
def XB(p:GNode->Bool) (e:List GNode):List Int:=wg ((e.filter p).map (·.N))
theorem Ky:(XB p e).length<=e.length:=by
 grind[XB,Ig,cab]
def CV(n:GNode):Bool:=n.Op==7
def Hk(n:GNode):Bool:=n.Op==8
def Tv(n:GNode):Bool:=n.Op==36 || n.Op==37 || n.Op==38 || n.Op==39
def PD(e:List GNode):List Int×List Int×List Int:=(XB CV e,XB Hk e,XB Tv e)
theorem CE:∀{a b:List Int},uO a->uO b->(∀x,x∈a↔x∈b)->a=b
 |[],[],_,_,_=>rfl
 |[],y::b,_,_,h=>by have:=(h y).2 (by simp);simp_all
 |x::a,[],_,_,h=>by have:=(h x).1 (by simp);simp_all
 |x::a,y::b,ha,hb,h=>by
  obtain⟨ha1,c⟩:=Wab.1 ha;obtain⟨hb1,d⟩:=Wab.1 hb;have e:x=y:=by
   have h1:=(h x).1 (by simp);have h2:=(h y).2 (by simp)
   grind
  subst e;rw[CE c d λz=>?_]
  grind
theorem Ez{d:Array Int}(k:∀i j,i<j->j<d.size->d[i]!<=d[j]!):∀m,m<=d.size->uO (Go.Lib.compactUpTo d m)/\∀x,x∈Go.Lib.compactUpTo d m↔∃i,i<m/\d[i]! = x
 |0,_=>⟨by simp[Go.Lib.compactUpTo,uO],by simp[Go.Lib.compactUpTo]⟩
 |m+1,hm=>by
  obtain⟨b,e⟩:=Ez k m (by omega);have g:∀i,i<m->d[i]!<=d[m-1]!:=by
   intro i hi;by_cases h:i=m-1
   .simp_all
   .exact k i (m-1) (by omega) (by omega)
  rw[Go.Lib.compactUpTo_succ];by_cases hk:Go.Lib.keeps d m=true
  .rw[if_pos hk];refine⟨?_,λx=>?_⟩
   .unfold uO;rw[List.pairwise_append];refine⟨b,by simp,λa ha c hc=>?_⟩;obtain⟨i,hi,rfl⟩:=(e a).1 ha;obtain rfl:=oab.1 hc;have hne:d[m]!≠d[m-1]!:=by
     have:=of_decide_eq_true hk;omega
    have h1:=g i hi;have h2:=k (m-1) m (by omega) (by omega);omega
   grind
  .rw[if_neg hk,List.append_nil];refine⟨b,λx=>?_⟩;rw[e];have f:Go.Lib.keeps d m=false:=by simp_all
   have hmm:¬(m=0\/d[m]!≠d[m-1]!):=of_decide_eq_false f
   grind
theorem yr(l:List Int):Go.Lib.compact (l.mergeSort λx y=>decide (x<=y))=wg l:=by
 have hp:=List.pairwise_mergeSort (le:=λ(x y:Int)=>decide (x<=y)) (λa b c e h2=>by grind) (λa b=>by grind) l;have hm:∀x,x∈(l.mergeSort λx y=>decide (x<=y))↔x∈l:=λx=>List.mem_mergeSort;generalize (l.mergeSort λx y=>decide (x<=y))=q at *;obtain⟨e,h2⟩:=Ez (d:=q.toArray) (λi j hij hj=>by
  grind[List.pairwise_iff_getElem]) q.length (by simp)
 obtain⟨g1,-,g2⟩:=Ig l;refine CE e g1 λx=>?_;unfold Go.Lib.compact;rw[h2,g2,←hm x];constructor
 .grind
 .intro h;obtain⟨i,hi,rfl⟩:=List.mem_iff_getElem.1 h;exact⟨i,hi,by simp_all⟩
theorem Us(h:l.length<=1099511627776):Bj l=some (wg l):=by
 unfold Bj Ja Ca;rw[if_pos (by omega),kaa,if_pos (by simp;omega),kaa,yr]
theorem Mv(h:l.length<=8796093022208):Qh l=some (wg l):=by
 simp_all[Qh,Ja,Ca,if_pos,kaa,yr]
theorem Yx{l:List GNode}{x:GNode}:((l++[x]).filter p).map (·.N)=if p x=true then(l.filter p).map (·.N)++[x.N]else(l.filter p).map (·.N):=by
 grind
theorem vm(h:e.length<=1099511627776):Ef e=some (PD e):=by
 unfold Ef;have hb:∀(p:GNode->Bool) (i:Nat),(((e.take i).filter p).map (·.N)).length<=e.length:=λp i=>by
  grind
 have hl:ea (Th e) (([]:List Int),([]:List Int),([]:List Int),0)=some (.inl ((e.filter CV).map (·.N),(e.filter Hk).map (·.N),(e.filter Tv).map (·.N))):=by
  refine Od (λi=>(((e.take i).filter CV).map (·.N),((e.take i).filter Hk).map (·.N),((e.take i).filter Tv).map (·.N),(i:Int))) e.length _ (λi hi=>?_) ?_ rfl
  .have ht:e.take (i+1)=e.take i++[e[i]]:=by simp
   have b1:=hb CV i;have b2:=hb Hk i;have b3:=hb Tv i;unfold Th;simp only;rw[if_pos (by omega),Ea hi,kaa,va (by omega),ht,Yx,Yx,Yx]
   grind[CV,Hk,Tv,Kh]
  simp_all[Th,if_neg,List.take_length]
 have c:∀p:GNode->Bool,((e.filter p).map (·.N)).length<=1099511627776:=λp=>by
  grind
 rw[hl,kaa];simp only;rw[Us (c CV),kaa,Us (c Hk),kaa,Us (c Tv),kaa];rfl
def DK(n:Int) (a:List Int) (x:Int):List Int:=if 0<=x/\x<n then Iw a x else a
def DH(n:Int) (a:List Int):Prop:=uO a/\∀x∈a,0<=x/\x<n
theorem DH.len(h:DH n a):a.length<=n.toNat:=by
 have:=DE (lo:=0) (hi:=n) h.1 h.2;omega
theorem DH.nil:DH n []:=⟨by simp,by simp⟩
theorem DH.ins(h:DH n a):DH n (DK n a x):=by
 unfold DK;split
 .rename_i hx;refine⟨lG h.1,λy b=>?_⟩;rcases ny.1 b with b|rfl
  .exact h.2 y b
  omega
 omega
theorem DH.fold{n:Int}:∀{l a:List Int},DH n a->DH n (l.foldl (DK n) a)
 |[],a,h=>h
 |x::l,a,h=>DH.fold (l:=l) h.ins
theorem yG{n x:Int}:∀{l a:List Int},x∈l.foldl (DK n) a↔x∈a\/(x∈l/\0<=x/\x<n)
 |[],a=>by simp
 |y::l,a=>by
  simp only[eab];rw[yG (l:=l)];unfold DK;split
  .rename_i hy;rw[ny,lab]
   grind
  grind
def AB(r:GRule):List Int:=XB Hk r.Guard++XB Hk r.Value
def GU(n d:Int) (a:List Int) (r:GRule):List Int:=if r.Def=d then(AB r).foldl (DK n) a else a
def uP(s:GScope) (d:Int):List Int:=if 0<=d/\d<(s.Defs.length:Int)then s.Rules.foldl (GU s.Defs.length d) []else []
structure ScOk (s:GScope):Prop where
 defs:s.Defs.length<=1048576
 rules:s.Rules.length<=1048576
 g:∀r∈s.Rules,r.Guard.length<=1048576/\r.Value.length<=1048576
theorem TY{r:GRule}(h:DH n a):DH n (GU n d a r):=by
 unfold GU;split
 .exact h.fold
 omega
theorem sD{n d:Int}:∀{l:List GRule}{a:List Int},DH n a->DH n (l.foldl (GU n d) a)
 |[],a,h=>h
 |r::l,a,h=>sD (l:=l) (TY h)
theorem fM(s:GScope) (d:Int):DH s.Defs.length (uP s d):=by
 grind[uP,sD,DH.nil]
def VE(s:GScope) (d x:Int):Prop:=(0<=d/\d<(s.Defs.length:Int))/\(0<=x/\x<(s.Defs.length:Int))/\∃r∈s.Rules,r.Def=d/\x∈AB r
theorem pB{s:GScope}:x∈uP s d↔VE s d x:=by
 have key:∀(l:List GRule) (a:List Int),x∈l.foldl (GU s.Defs.length d) a↔x∈a\/(0<=x/\x<(s.Defs.length:Int))/\∃r∈l,r.Def=d/\x∈AB r:=by
  intro l
  induction l with
  |nil=>simp
  |cons r l b=>
   intro a;simp only[eab];rw[b];unfold GU;split
   .rename_i hr;rw[yG]
    grind
   simp_all
 unfold uP VE
 simp_all
end Go.Proofs.Dev
namespace Go.Tm
theorem Iz{α:Type} [DecidableEq α]:∀{a b:List α},a.Nodup->(∀x∈a,x∈b)->a.length<=b.length
 |[],b,_,_=>by simp
 |x::a,b,h,hs=>by
  obtain⟨h1,h2⟩:=vab.1 h;have:=Iz (a:=a) (b:=b.erase x) h2 λy hy=>by
   grind
  grind
theorem YI{a:List Int}(h:uO a):a.Nodup:=h.imp λh he=>by omega
end Go.Tm
namespace Go.Proofs.Dev
open Go Go.Tm
variable {a:List Int}{x:GScope}{y d:Int}{k n i:Nat}{o:Option Bool}{v:Int×Int}
inductive Way (s:GScope):Int->Int->Prop
 |one {a b:Int} (h:VE s a b):Way s a b
 |step {a b c:Int} (h:Way s a b) (h2:VE s b c):Way s a c
def trF(s:GScope) (a:List Int) (x:Int):List Int:=(uP s x).foldl Iw a
def trR(s:GScope) (a:List Int):List Int:=a.foldl (trF s) a
def oO(s:GScope) (d:Int):Nat->List Int
 |0=>uP s d
 |k+1=>trR s (oO s d k)
theorem aJ{n:Int}:∀{l a:List Int},(∀x∈l,0<=x/\x<n)->l.foldl Iw a=l.foldl (DK n) a
 |[],a,_=>rfl
 |x::l,a,h=>by
  simp only[eab];rw[show DK n a x=Iw a x from if_pos (h x (by simp)),aJ λy hy=>h y (by grind)]
theorem Y5(s:GScope) (a:List Int) (x:Int):trF s a x=(uP s x).foldl (DK s.Defs.length) a:=aJ (fM s x).2
theorem trF_inv{s:GScope}{x:Int}(h:DH s.Defs.length a):DH s.Defs.length (trF s a x):=by rw[Y5];exact h.fold
theorem trF_mem{s:GScope}{x:Int}:y∈trF s a x↔y∈a\/VE s x y:=by
 rw[Y5,yG];constructor
 .grind[pB]
 .rintro(h|h)
  .simp_all
  .exact .inr ⟨pB.2 h,h.2.1⟩
theorem sH{s:GScope}:∀{l a:List Int},DH s.Defs.length a->DH s.Defs.length (l.foldl (trF s) a)
 |[],a,h=>h
 |x::l,a,h=>sH (l:=l) (trF_inv h)
theorem xu{s:GScope}{y:Int}:∀{l a:List Int},y∈l.foldl (trF s) a↔y∈a\/∃x∈l,VE s x y
 |[],a=>by simp
 |x::l,a=>by
  simp only[eab];rw[xu (l:=l),trF_mem]
  grind
theorem jL(s:GScope) (d:Int):∀k,DH s.Defs.length (oO s d k)
 |0=>fM s d
 |k+1=>sH (jL s d k)
theorem dD{s:GScope}{d y:Int}:∀{k:Nat},y∈oO s d k->Way s d y
 |0,h=>.one (pB.1 h)
 |k+1,h=>by
  rcases xu.1 h with h|⟨x,a,h2⟩
  .exact dD h
  .exact .step (dD a) h2
theorem tH{s:GScope}(h:y∈oO s d k):y∈oO s d (k+1):=xu.2 (.inl h)
theorem qO{s:GScope}{d y:Int}(h:VE s d y):∀k,y∈oO s d k
 |0=>pB.2 h
 |k+1=>tH (qO h k)
def Shut(s:GScope) (a:List Int):Prop:=∀x∈a,∀y,VE s x y->y∈a
open Classical in
theorem rO{s:GScope}{d:Int}:∀k,Shut s (oO s d k)\/k+1<=(oO s d k).length
 |0=>by
  cases h:oO s d 0 with
  |nil=>exact .inl λx hx=>by simp at hx
  |cons x l=>exact .inr (by simp)
 |k+1=>by
  by_cases hc:Shut s (oO s d k)
  .refine .inl λx hx y g=>?_;have c:x∈oO s d k:=by
    rcases xu.1 hx with h|⟨z,n,h2⟩
    .exact h
    .exact hc z n x h2
   exact tH (hc x c y g)
  .rcases rO k with h|h
   .exact(hc h).elim
   .right;obtain⟨x,hx⟩:=nae.1 hc;obtain⟨e,f⟩:=Hae.1 hx;obtain⟨y,g⟩:=nae.1 f;obtain⟨i,j⟩:=Hae.1 g;have:=Iz (a:=y::oO s d k) (b:=oO s d (k+1)) (vab.2 ⟨j,YI (jL s d k).1⟩) λz m=>by
     rcases lab.1 m with rfl|m
     .exact xu.2 (.inr ⟨x,e,i⟩)
     .exact tH m
    simp only[List.length_cons]at this;omega
theorem Z5(s:GScope) (d:Int):Shut s (oO s d s.Defs.length):=by
 rcases rO (s:=s) (d:=d) s.Defs.length with h|h
 .exact h
 .have:=(jL s d s.Defs.length).len;omega
theorem KE{s:GScope}:y∈oO s d s.Defs.length↔Way s d y:=by
 constructor
 .exact dD
 .intro h
  induction h with
  |one h=>grind[qO]
  |step h h2 a=>exact Z5 s d _ a _ h2
def cE(n:Int) (l:List Int):List Int:=l.filter λx=>decide (0<=x)&&decide (x<n)
theorem HI{n:Int}{l:List Int}(h:a.length+l.length<=1099511627776) {step:List Int×Int->Option (Ex (List Int×Int) (List Int) Unit)}
 (hstep:∀(a:List Int) (i:Nat) (hi:i<l.length),step (a,(i:Int))=(laa (α:=List Int) (if(decide (0<=l[i])&&decide (l[i]<n))=true then(app 8 a [l[i]]).bind λx=>some x else some a) λj=>some (.go (j,aa .i64 ((i:Int)+1)))))
 (hend:∀a,step (a,(l.length:Int))=some (.brk a)):ea step (a,0)=some (.inl (a++cE n l)):=by
 refine Od (λi=>(a++cE n (l.take i),(i:Int))) l.length _ (λi hi=>?_) ?_ (by simp[cE])
 .have hlen:(cE n (l.take i)).length<=i:=by
   grind[cE]
  have ht:cE n (l.take (i+1))=cE n (l.take i)++(if(decide (0<=l[i])&&decide (l[i]<n))=true then [l[i]]else []):=by
   grind[cE,Raa]
  grind[va,Kh]
 simp_all
theorem Tr{r:GRule}(h:r.Guard.length<=1048576/\r.Value.length<=1048576) (n:Int):ue r n=some (cE n (XB Hk r.Guard)++cE n (XB Hk r.Value)):=by
 unfold ue;have l1:=Ky (p:=Hk) (e:=r.Guard);have l2:=Ky (p:=Hk) (e:=r.Value);have l3:(cE n (XB Hk r.Guard)).length<=(XB Hk r.Guard).length:=cab _ _;rw[vm (by omega),kaa,vm (by omega),kaa];have b:ea (Of n (PD r.Guard)) (([]:List Int),0)=some (.inl ([]++cE n (XB Hk r.Guard))):=by
  refine HI (l:=XB Hk r.Guard) (by grind) (λa i hi=>?_) (λa=>?_)
  .unfold Of PD;simp only;rw[if_pos (by omega),Ea hi,kaa]
   grind
  grind[Of,PD]
 rw[b,kaa];simp only[List.nil_append];have b2:ea (Nf n (PD r.Value)) (cE n (XB Hk r.Guard),0)=some (.inl (cE n (XB Hk r.Guard)++cE n (XB Hk r.Value))):=by
  refine HI (l:=XB Hk r.Value) (by omega) (λa i hi=>?_) (λa=>?_)
  .unfold Nf PD;simp only;rw[if_pos (by omega),Ea hi,kaa]
   grind
  grind[Nf,PD]
 simp_all
theorem mapM_some{α β:Type}{f:α->Option β}(g:α->β):∀{l:List α},(∀x∈l,f x=some (g x))->l.mapM f=some (l.map g)
 |[],_=>rfl
 |x::l,h=>by
  rw[List.mapM_cons,h x (by simp),mapM_some g λy hy=>h y (by grind)];rfl
def Np(s:GScope):List (List Int):=
 (xaa s.Defs.length).map λ(d:Nat)=>wg ((s.Rules.filter λ(r:GRule)=>r.Def==(d:Int)).map λr=>cE s.Defs.length (XB Hk r.Guard)++cE s.Defs.length (XB Hk r.Value)).flatten
theorem Qn{s:GScope}(a:ScOk s):tc s=some (Np s):=by
 unfold tc Np;rw[if_pos ⟨a.defs,a.rules,a.g⟩];refine mapM_some _ λd _=>?_;rw[mapM_some (λr=>cE s.Defs.length (XB Hk r.Guard)++cE s.Defs.length (XB Hk r.Value)) λr hr=>Tr (a.g r (hac.1 hr).1) _];rfl
theorem oB{s:GScope}{l:List Int}(h0:0<=d) (h:(Np s)[d.toNat]?=some l) (x:Int):x∈l↔VE s d x:=by
 unfold Np at h;rw[List.getElem?_map]at h;by_cases hd:d.toNat<s.Defs.length
 .rw[List.getElem?_range hd]at h;simp only[Option.map_some,Vaa]at h;subst h;rw[(Ig _).2.2];simp only[List.mem_flatten,Paa,hac,beq_iff_eq,VE,AB,cE]
  grind
 simp_all
theorem Pr(s:GScope):(Np s).length=s.Defs.length:=by simp[Np]
theorem nW{s:GScope}{a b:Int}(f:0<=a):ReachL (Np s) a b↔Way s a b:=by
 constructor
 .intro h;have key:∀{b:Int},ReachL (Np s) a b->Way s a b/\0<=b:=by
   intro b h
   induction h with
   |one h hb=>exact have:=(oB f h _).1 hb;⟨.one this,this.2.1.1⟩
   |step h hl hc e=>exact have:=(oB e.2 hl _).1 hc;⟨.step e.1 this,this.2.1.1⟩
  simp_all
 .intro h;have get:∀{d x:Int},VE s d x->∃l,(Np s)[d.toNat]?=some l/\x∈l:=by
   intro d x hd;have c:d.toNat<(Np s).length:=by rw[Pr];have:=hd.1;omega
   exact⟨_,naa c,(oB hd.1.1 (naa c) x).2 hd⟩
  induction h with
  |one h=>obtain⟨l,g,h2⟩:=get h;exact .one g h2
  |step h h2 e=>obtain⟨l,i,j⟩:=get h2;exact .step e i j
theorem cK{l:List Int}(hl:l.length<=1099511627776) (d:Int):Te l d=some (decide (d∈l)):=by
 have h:=Pq (l:=l) (p:=λx=>some (decide (d=x))) (λx=>decide (d=x)) (λx _=>rfl) (by omega) (o:=ea (Ng l d) 0) (by
  unfold Ng;simp)
 have h':Te l d=some (l.any λx=>decide (d=x)):=h
 grind
open Classical in
theorem tm{s:GScope}(c:ScOk s) (d:Int):∃l,Xc s d=some l/\l.length<=1048576/\∀x,x∈l↔Way s d x:=by
 unfold Xc;by_cases hd:0<=d/\d<(s.Defs.length:Int)
 .have hn:=c.defs;refine⟨PG (Np s) d,?_,?_,?_⟩
  .rw[if_pos (by omega),kaa,if_neg (by simp;omega),Qn c,kaa];unfold Ti;rw[if_pos]
   .rfl
   .refine⟨by rw[Pr];omega,λl hl=>?_,hd.1,by rw[Pr];exact hd.2⟩;obtain⟨i,hi,rfl⟩:=waa hl;have hm:=λx=>oB (s:=s) (d:=(i:Int)) (l:=(Np s)[i]) (by omega) (by rw[Int.toNat_natCast];exact naa hi) x;have hb:∀x∈(Np s)[i],0<=x/\x<((Np s).length:Int):=λx hx=>by rw[Pr];exact((hm x).1 hx).2.1
    refine⟨?_,hb⟩;have a:uO (Np s)[i]:=by simp only[Np,List.getElem_map];exact(Ig _).1
    have:=DE a hb;rw[Pr]at this;omega
  .have e:=cab (λb=>@decide (ReachL (Np s) d b) (Classical.propDecidable _)) ((xaa (Np s).length).map λ(k:Nat)=>(k:Int));unfold PG;simp only[List.length_map,List.length_range,Pr]at e⊢;omega
  .intro x;unfold PG;rw[hac,Pr,Paa,decide_eq_true_eq,nW hd.1];constructor
   .exact λh=>h.2
   .intro h;refine⟨?_,h⟩;have:0<=x/\x<(s.Defs.length:Int):=by cases h with|one h=>exact h.2.1|step _ h=>exact h.2.1
    exact⟨x.toNat,by simp;omega,by omega⟩
 .refine⟨[],?_,by simp,λx=>?_⟩
  .have:(if¬d<0 then some (decide ((s.Defs.length:Int)<=d))else some true)=some true:=by
    by_cases h:d<0
    .rw[if_neg (by omega)]
    .rw[if_pos h,decide_eq_true (by omega)]
   rw[this];rfl
  .constructor
   .intro h;simp at h
   .intro h;exfalso;apply hd;clear hd
    induction h with
    |one h=>exact h.1
    |step h h2 f=>exact f
structure LawOk (l:GLaw):Prop where
 ne:l.Enums.length<=1048576
 nt:l.Tables.length<=1048576
 ns:l.Scopes.length<=1048576
 e:∀x∈l.Enums,x.Name.size<=1048576/\∀m∈x.Members,m.size<=1048576
 t:∀x∈l.Tables,x.Name.size<=1048576
 s:∀x∈l.Scopes,x.Name.size<=1048576/\ScOk x/\x.Inputs.length<=1048576/\(∀f∈x.Inputs,f.Name.size<=1048576)/\(∀f∈x.Defs,f.Name.size<=1048576)/\
  (∀r∈x.Rules,r.Name.size<=1048576/\r.Source.size<=1048576/\(∀n∈r.Guard,Kd n)/\∀n∈r.Value,Kd n)
theorem FC{l:List GEnum}(hl:l.length<=1048576) (nm:ByteArray):ln l nm=some (l.any λx=>decide (x.Name=nm)):=by
 have h:=Pq (l:=l) (p:=λx=>Bg x nm) (λx=>decide (x.Name=nm)) (λx _=>rfl) (by omega) (o:=ea (ld l (λx=>Bg x nm)) 0) rfl;have h':bb l (λx=>Bg x nm)=some (l.any λx=>decide (x.Name=nm)):=h
 grind[ln]
theorem jG{l:List GTable}(hl:l.length<=1048576) (nm:ByteArray):bo l nm=some (l.any λx=>decide (x.Name=nm)):=by
 have h:=Pq (l:=l) (p:=λx=>Ff x nm) (λx=>decide (x.Name=nm)) (λx _=>rfl) (by omega) (o:=ea (Mc l (λx=>Ff x nm)) 0) rfl;have h':Ua l (λx=>Ff x nm)=some (l.any λx=>decide (x.Name=nm)):=h
 grind[bo]
theorem VP{l:List GScope}(hl:l.length<=1048576) (y:GScope):Ta l (λx=>Nd x y)=some (l.any λx=>decide (x.Name=y.Name)):=
 Pq (l:=l) (p:=λx=>Nd x y) (λx=>decide (x.Name=y.Name)) (λx _=>rfl) (by omega) (o:=ea (Lc l (λx=>Nd x y)) 0) rfl
theorem iG{l:List GField}(hl:l.length<=1048576) (y:GField):Ga l (λx=>Ic x y)=some (l.any λx=>decide (x.Name=y.Name)):=
 Pq (l:=l) (p:=λx=>Ic x y) (λx=>decide (x.Name=y.Name)) (λx _=>rfl) (by omega) (o:=ea (Kc l (λx=>Ic x y)) 0) rfl
theorem wV{l:List GRule}(hl:l.length<=1048576) (y:GRule):db l (λx=>Pe x y)=some (l.any λx=>decide (x.Name=y.Name)):=
 Pq (l:=l) (p:=λx=>Pe x y) (λx=>decide (x.Name=y.Name)) (λx _=>rfl) (by omega) (o:=ea (od l (λx=>Pe x y)) 0) rfl
theorem IZ{l:List ByteArray}(hl:l.length<=1048576) (y:ByteArray):Qd l y=some (l.any λx=>decide (x=y)):=by
 have h:=Pq (l:=l) (p:=λx=>some (decide (y=x))) (λx=>decide (x=y)) (λx _=>by grind) (by omega) (o:=ea (Sd l y) 0) (by
  unfold Sd;simp)
 exact h
noncomputable def memF(x:GEnum) (k:Nat):Option (Int×Int):=
 match x.Members[k]? with
 |some m=>if Vs m=false then some (2,100+(k:Int))else if((x.Members.take k).any λy=>decide (y=m))=true then some (7,100+(k:Int))else none
 |none=>none
noncomputable def Gl(l:GLaw) (i:Nat) (x:GEnum):Int×Int:=
 if Vs x.Name=false then(2,0)else if((l.Enums.take i).any λy=>decide (y.Name=x.Name))=true then(7,0)
 else if x.Members.length=0 then(5,0)else if 16<x.Members.length then(4,116)else(ff (memF x) x.Members.length).getD (0,0)
theorem eE{l:GLaw}(h:LawOk l) (hi:i<l.Enums.length):Fo l (i:Int) l.Enums[i]=some (Gl l i l.Enums[i]):=by
 obtain⟨g1,g2⟩:=h.e _ (taa hi);have hne:=h.ne;generalize l.Enums[i]=x at g1 g2⊢;unfold Fo Gl;rw[Ep (by omega),kaa];cases Vs x.Name
 .rfl
 simp only[Eaa,sab,if_false];rw[fw (by omega),kaa,FC (by grind),kaa];cases (l.Enums.take i).any λy=>decide (y.Name=x.Name)
 .simp only[Eaa,sab,if_false];by_cases b:x.Members.length=0
  .simp_all
  rw[if_neg (by omega),if_neg b];by_cases a:16<x.Members.length
  .grind
  rw[if_neg (by omega),if_neg a];have hl:ea (lk x) 0=some (fi () (ff (memF x) x.Members.length)):=
   kh (λk=>(k:Int)) _ _ _ (λk hk _=>by
    have hm:=g2 _ (taa hk);unfold lk memF;rw[if_pos (by omega),Ea hk,kaa,Ep (by omega),kaa,naa hk,wid (n:=100+(k:Int)) (by omega) (by omega),va (by omega),fw (by omega),kaa,IZ (by grind),kaa];simp only;cases Vs x.Members[k]
    .rfl
    .simp only[Eaa,sab,if_false];cases (x.Members.take k).any λy=>decide (y=x.Members[k])<;>rfl) (λ_=>by grind[lk])
  rw[hl];cases ff (memF x) x.Members.length<;>rfl
 .rfl
noncomputable def ft(l:GLaw) (i:Nat) (x:GTable):Int×Int:=
 if Vs x.Name=false then(2,0)
 else if((l.Enums.any λy=>decide (y.Name=x.Name)) || (l.Tables.take i).any λy=>decide (y.Name=x.Name))=true then(7,0)
 else if(jt x l.Enums).2=0 then(0,0)else((jt x l.Enums).2,if(jt x l.Enums).1 = -1 then 0 else 100+(jt x l.Enums).1)
theorem UQ(t:GTable) (e:List GEnum):-1<=(jt t e).1/\(jt t e).1<=64:=by
 unfold jt;split
 .simp
 .split
  .simp
  .cases h:ff (mI t e) t.Rows.length with
   |none=>simp
   |some v=>
    grind[mI,vb]
theorem HV{l:GLaw}(h:LawOk l):ea (Xh l) 0=some (fi () (ff (λi=>match l.Tables[i]? with|some x=>if(ft l i x).1=0 then none else some (⟨(ft l i x).1,2,(i:Int),(ft l i x).2⟩:GLawError)|none=>none) l.Tables.length)):=by
 have hnt:=h.nt;have a:=h.ne;refine kh (λk=>(k:Int)) _ _ _ (λi hi _=>?_) (λ_=>by grind[Xh]);have hx:=h.t _ (taa hi);unfold Xh ft;rw[if_pos (by omega),Ea hi,kaa,naa hi,va (by omega)];simp only;generalize l.Tables[i]=x at hx⊢;have hr:=UQ x l.Enums;rw[WC,kaa,Ep (by omega),kaa,FC a,kaa,fw (by omega),kaa,jG (by grind),wid (n:=100+(jt x l.Enums).1) (by omega) (by omega)]
 grind[zE]
noncomputable def Fw(l:GLaw) (f:GField) (a b:List GField):Int:=
 if Vs f.Name=false then 2 else if((a.any λy=>decide (y.Name=f.Name)) || b.any λy=>decide (y.Name=f.Name))=true then 7 else if ta f.Type_ l.Enums=false then 8 else 0
theorem Wv{l:GLaw}{f:GField}{a b:List GField}(hf:f.Name.size<=1048576) (ha:a.length<=1048576) (hb:b.length<=1048576):nk l f a b=some (Fw l f a b):=by
 unfold nk Fw;rw[Ep (by omega),kaa,iG ha,kaa,iG hb,Tb,kaa]
 grind
theorem aE{l:List GField}(hl:l.length<=1048576) {step:List GType×Int->Option (Ex (List GType×Int) (List GType) Unit)}
 (hstep:∀(a:List GType) (i:Nat) (hi:i<l.length),step (a,(i:Int))=((app 16 a [l[i].Type_]).bind λx=>some (.go (x,aa .i64 ((i:Int)+1)))))
 (hend:∀a,step (a,(l.length:Int))=some (.brk a)):ea step (([]:List GType),0)=some (.inl (l.map (·.Type_))):=by
 refine Od (λi=>((l.take i).map (·.Type_),(i:Int))) l.length _ (λi hi=>?_) (by simp_all) (by simp)
 grind[Kh,va,Raa]
theorem ir{l:List GField}(hl:l.length<=1048576):Yh l=some (l.map (·.Type_)):=by
 unfold Yh;rw[aE hl (step:=kj l) (λa i hi=>by simp_all[kj,Ea]) (λa=>by grind[kj])];rfl
def iH(l:GLaw) (s:GScope):GSignature:=
 if h:0<=s.MemberScope/\s.MemberScope<(l.Scopes.length:Int)then⟨l.Enums,l.Tables,s.Inputs.map (·.Type_),s.Defs.map (·.Type_),(l.Scopes[s.MemberScope.toNat]'(by omega)).Defs.map (·.Type_),true⟩
 else⟨l.Enums,l.Tables,s.Inputs.map (·.Type_),s.Defs.map (·.Type_),[],false⟩
theorem sx{l:GLaw}(h:LawOk l) (hi:i<l.Scopes.length):gh l (i:Int)=some (iH l l.Scopes[i]):=by
 obtain⟨g1,g2,g3,-⟩:=h.s _ (taa hi);have gd:=g2.defs;unfold gh iH;rw[Ea hi,kaa];generalize l.Scopes[i]=x at gd g3⊢;rw[ir g3,kaa,ir gd,kaa];by_cases hm:0<=x.MemberScope/\x.MemberScope<(l.Scopes.length:Int)
 .have hd:=(h.s _ (taa (l:=l.Scopes) (n:=x.MemberScope.toNat) (by omega))).2.1.defs
  simp_all[Zn,ir]
 grind
def zJ(s:ByteArray) (i:Nat):Bool:=if h:i<s.size then decide (32<=(s[i].toNat:Int))&&decide ((s[i].toNat:Int)<=126)&&!((s[i].toNat:Int)==34)else true
def srcB(s:ByteArray):Bool:=decide (s.size<=64)&&(ff (λi=>if zJ s i=true then none else some false) s.size).isNone
theorem MV{s:ByteArray}{c:UInt8}:s.data.toList.contains c=true↔∃i,∃h:i<s.size,s[i]=c:=by
 rw[List.contains_iff_mem];constructor
 .intro h;obtain⟨i,hi,he⟩:=waa h;exact⟨i,by simpa using hi,by rw[←he];rfl⟩
 .rintro⟨i,hi,rfl⟩;exact taa (l:=s.data.toList) (n:=i) (by simp_all)
theorem dB{s:ByteArray}(hs:s.size<=1048576):Jl s=some (srcB s):=by
 unfold Jl srcB strings_Contains;rw[if_pos (show(yaa #[34]).size=1 from rfl)];by_cases h64:64<s.size
 .grind
 rw[if_pos (by omega),decide_eq_true (p:=s.size<=64) (by omega)];have d:ea (Zh s) 0=some (fi () (ff (λi=>if(if h:i<s.size then decide (32<=(s[i].toNat:Int))&&decide ((s[i].toNat:Int)<=126)else true)=true then none else some false) s.size)):=
  kh (λi=>(i:Int)) _ _ _ (λi hi _=>by
   unfold Zh;rw[if_pos (by omega),S4 hi,kaa,va (by omega),dif_pos hi]
   grind[zE]) (λ_=>by grind[Zh])
 rw[d];simp only[kaa,tac];have hc:=MV (s:=s) (c:=34);change (s.data.toList.contains ((yaa #[34]).data.toList.headD 0))=true↔_ at hc;have h34:∀i (h:i<s.size),s[i]=34↔(s[i].toNat:Int)=34:=λi h=>by
  constructor
  .simp_all
  .intro he;apply UInt8.toNat_inj.1
   grind
 cases hq:s.data.toList.contains ((yaa #[34]).data.toList.headD 0)
 .rw[hq]at hc;have hno:∀i (h:i<s.size),(s[i].toNat:Int)≠34:=λi h he=>by
   simp_all
  rw[if_neg (by simp)];have b:ff (λi=>if(if h:i<s.size then decide (32<=(s[i].toNat:Int))&&decide ((s[i].toNat:Int)<=126)else true)=true then none else some false) s.size=ff (λi=>if zJ s i=true then none else some false) s.size:=by
   simp_all[zJ]
  rw[b]
  cases h2:ff (λi=>if zJ s i=true then none else some false) s.size with
  |none=>rfl
  |some v=>
   obtain⟨j,j1,a,-⟩:=vb.1 h2;split at a
   .grind
   .injection a with a;subst a;rfl
 .obtain⟨i,hi,he⟩:=hc.1 hq;rw[if_pos rfl]
  cases h2:ff (λi=>if zJ s i=true then none else some false) s.size with
  |some v=>rfl
  |none=>
   simp_all[zJ,sb]
noncomputable def vH(e:List GNode) (s:GSignature) (t:GType):Int:=
 if¬(cx e s).2.2=0 then(cx e s).2.2 else if¬((cx e s).1.Kind=t.Kind/\(cx e s).1.Enum=t.Enum)then 8 else 0
theorem Xw{e:List GNode}(hN:∀n∈e,Kd n) (s:GSignature) (t:GType):Rl e s t=some (vH e s t):=by
 grind[Rl,vH,XH]
def rI(x:GScope) (k:Nat) (r:GRule):Nat:=((x.Rules.take k).filter λy=>decide (y.Def=r.Def)).length
theorem sibs_le(x:GScope) (k:Nat) (r:GRule):rI x k r<=k:=by
 grind[rI]
theorem DW{r:GRule}(hk:k<x.Rules.length):rI x (k+1) r=if x.Rules[k].Def=r.Def then rI x k r+1 else rI x k r:=by
 unfold rI;rw[Raa,naa hk,List.filter_append,List.length_append]
 grind
def IK(x:GScope) (k:Nat) (r:GRule):Bool:=
 if r.Parent = -1 then false else if r.Parent<0 then true else if(k:Int)<=r.Parent then true else match x.Rules[r.Parent.toNat]? with|some q=>q.Def !=r.Def|none=>true
noncomputable def RD(x:GScope) (s:GSignature) (k:Nat) (r:GRule):Int:=
 if Vs r.Name=false then 2
 else if((x.Rules.take k).any λy=>decide (y.Name=r.Name))=true then 7
 else if r.Def<0\/(x.Defs.length:Int)<=r.Def then 6
 else if IK x k r=true then 9
 else if r.Priority<0\/9<r.Priority\/r.Valid.From<0\/r.Valid.To<=r.Valid.From\/109573<r.Valid.To then 3
 else if 8<=rI x k r then 4
 else if srcB r.Source=false then 2
 else if 0<r.Guard.length/\vH r.Guard s ⟨1,0⟩≠0 then vH r.Guard s ⟨1,0⟩
 else vH r.Value s (match x.Defs[r.Def.toNat]? with|some d=>d.Type_|none=>⟨0,0⟩)
structure RuleOk (r:GRule):Prop where
 nm:r.Name.size<=1048576
 src:r.Source.size<=1048576
 g:∀n∈r.Guard,Kd n
 v:∀n∈r.Value,Kd n
variable {r:GRule}
theorem par_s(hk:k<x.Rules.length) (ho:o=(if¬r.Parent = -1 then if¬r.Parent<0 then if¬(k:Int)<=r.Parent then(idx x.Rules r.Parent).bind λy=>some (y.Def !=r.Def)else some true else some true else some false)):o=some (IK x k r):=by
 rw[ho];unfold IK;by_cases a:r.Parent = -1
 .grind
 by_cases h2:r.Parent<0
 .simp_all
 by_cases b:(k:Int)<=r.Parent
 .simp_all
 .rw[if_pos a,if_pos h2,if_pos b,if_neg a,if_neg h2,if_neg b,Zn (by omega) (by omega),kaa,naa]
theorem fE(hx:ScOk x) (hk:k<x.Rules.length) (hr:RuleOk x.Rules[k]) (s:GSignature):Ho x (k:Int) s=some (RD x s k x.Rules[k]):=by
 have hrl:=hx.rules;have hdl:=hx.defs;unfold Ho RD;rw[Ea hk,kaa,fw (by omega),kaa];generalize hrr:x.Rules[k]=r at hr⊢;have hl:ea (pk r (x.Rules.take k)) (0,0)=some (.inl ((rI x k r:Nat):Int)):=by
  refine Od (λi=>(((rI x i r:Nat):Int),(i:Int))) k _ (λi hi=>?_) ?_ rfl
  .have:=sibs_le x i r;unfold pk;simp only;rw[if_pos (by grind),Ea (by grind),kaa,va (by omega),va (by omega),had,DW (by omega)]
   grind
  grind[pk]
 rw[hl,kaa];simp only;rw[Ep (by have:=hr.nm;omega),kaa,kaa,wV (by grind),kaa];cases Vs r.Name
 .rfl
 simp only[sab,if_false];cases (x.Rules.take k).any λy=>decide (y.Name=r.Name)
 .simp only[Eaa,if_false];by_cases hd:r.Def<0\/(x.Defs.length:Int)<=r.Def
  .grind
  .rw[if_neg hd,if_pos (by omega),kaa,if_neg (by simp_all)];rw[par_s hk rfl,kaa];cases IK x k r
   .simp only[Eaa,if_false];by_cases hp:r.Priority<0\/9<r.Priority
    .grind
    .rw[if_pos (show¬r.Priority<0 by omega),kaa,if_neg (by simp_all)];by_cases hv:r.Valid.From<0\/r.Valid.To<=r.Valid.From\/109573<r.Valid.To
     .grind
     .rw[if_pos (show¬r.Valid.From<0 by omega),if_pos (show¬r.Valid.To<=r.Valid.From by omega),kaa,if_neg (by simp_all),if_neg (show¬(r.Priority<0\/9<r.Priority\/r.Valid.From<0\/r.Valid.To<=r.Valid.From\/109573<r.Valid.To) by omega)];by_cases b:8<=rI x k r
      .grind
      rw[if_neg (by omega),if_neg b,dB hr.src,kaa];cases srcB r.Source
      .rfl
      simp only[sab,if_false];have hi:idx x.Defs r.Def=some (x.Defs[r.Def.toNat]'(by omega)):=Zn (by omega) (by omega);have a:x.Defs[r.Def.toNat]?=some (x.Defs[r.Def.toNat]'(by omega)):=naa _;simp only[hi,a,Xw hr.g,Xw hr.v,kaa]
      grind
   .rfl
 .rfl
theorem ruleOk{l:GLaw}(h:LawOk l) (hi:i<l.Scopes.length) (hr:r∈l.Scopes[i].Rules):RuleOk r:=by
 obtain⟨-,-,-,-,-,g⟩:=h.s _ (taa hi);obtain⟨a,b,c,d⟩:=g r hr;exact⟨a,b,c,d⟩
noncomputable def inF(l:GLaw) (x:GScope) (k:Nat):Option (Int×Int):=
 match x.Inputs[k]? with
 |some f=>if Fw l f (x.Inputs.take k) []=0 then none else some (Fw l f (x.Inputs.take k) [],100+(k:Int))
 |none=>none
noncomputable def sP(l:GLaw) (x:GScope) (k:Nat):Option (Int×Int):=
 match x.Defs[k]? with
 |some f=>if Fw l f x.Inputs (x.Defs.take k)=0 then none else some (Fw l f x.Inputs (x.Defs.take k),200+(k:Int))
 |none=>none
noncomputable def GQ(l:GLaw) (x:GScope) (k:Nat):Option (Int×Int):=
 match x.Rules[k]? with
 |some r=>if RD x (iH l x) k r=0 then none else some (RD x (iH l x) k r,300+(k:Int))
 |none=>none
open Classical in
noncomputable def zU(x:GScope) (k:Nat):Option (Int×Int):=if Way x (k:Int) (k:Int)then some (9,200+(k:Int))else none
def KC(l:GLaw) (i:Nat) (x:GScope):Bool:=
 if x.MemberScope = -1 then false else if x.MemberScope<0 then true else if(i:Int)<=x.MemberScope then true else match l.Scopes[x.MemberScope.toNat]? with|some q=>q.MemberScope !=-1|none=>true
noncomputable def qp(l:GLaw) (i:Nat) (x:GScope):Int×Int:=
 if Vs x.Name=false then(2,0)
 else if((l.Enums.any λy=>decide (y.Name=x.Name)) || ((l.Tables.any λy=>decide (y.Name=x.Name)) || (l.Scopes.take i).any λy=>decide (y.Name=x.Name)))=true then(7,0)
 else if KC l i x=true then(6,0)
 else if 12<x.Inputs.length then(4,112)
 else if 12<x.Defs.length then(4,212)
 else match ff (inF l x) x.Inputs.length with
  |some v=>v
  |none=>match ff (sP l x) x.Defs.length with
   |some v=>v
   |none=>match ff (GQ l x) x.Rules.length with
    |some v=>v
    |none=>(ff (zU x) x.Defs.length).getD (0,0)
theorem LV{l:GLaw}(hi:i<l.Scopes.length) (ho:o=(if¬x.MemberScope = -1 then if¬x.MemberScope<0 then if¬(i:Int)<=x.MemberScope then(idx (l.Scopes.take i) x.MemberScope).bind λy=>some (y.MemberScope !=-1)else some true else some true else some false)):o=some (KC l i x):=by
 rw[ho];unfold KC;by_cases a:x.MemberScope = -1
 .grind
 by_cases h2:x.MemberScope<0
 .simp_all
 by_cases b:(i:Int)<=x.MemberScope
 .simp_all
 .rw[if_pos a,if_pos h2,if_pos b,if_neg a,if_neg h2,if_neg b,Zn (by omega) (by grind),kaa,naa (by omega),had]
theorem HC{l:GLaw}(h:LawOk l) (hi:i<l.Scopes.length):kn l (i:Int)=some (qp l i l.Scopes[i]):=by
 obtain⟨g1,g2,g3,g4,g5,f⟩:=h.s _ (taa hi);have c:=h.ne;have d:=h.nt;have hns:=h.ns;have hS:=sx h hi;have b:∀r∈l.Scopes[i].Rules,RuleOk r:=λr hr=>ruleOk h hi hr;unfold kn qp;rw[Ea hi,kaa,fw (by omega),kaa];generalize l.Scopes[i]=x at g1 g2 g3 g4 g5 f hS b⊢;have gd:=g2.defs;have gr:=g2.rules;rw[FC c,kaa,jG d,VP (by grind),Ep (by omega)];have e:(if(l.Enums.any λy=>decide (y.Name=x.Name))=false then(some (l.Tables.any λy=>decide (y.Name=x.Name))).bind λu=>if u=false then(some ((l.Scopes.take i).any λy=>decide (y.Name=x.Name))).bind λw=>some w else some true else some true) =
  some ((l.Enums.any λy=>decide (y.Name=x.Name)) || ((l.Tables.any λy=>decide (y.Name=x.Name)) || (l.Scopes.take i).any λy=>decide (y.Name=x.Name))):=by
  grind
 rw[e,kaa,kaa];cases Vs x.Name
 .rfl
 simp only[sab,if_false];cases (l.Enums.any λy=>decide (y.Name=x.Name)) || ((l.Tables.any λy=>decide (y.Name=x.Name)) || (l.Scopes.take i).any λy=>decide (y.Name=x.Name))
 .simp only[Eaa,if_false];rw[LV (l:=l) (x:=x) hi rfl,kaa];cases KC l i x
  .simp only[Eaa,if_false];by_cases j:12<x.Inputs.length
   .grind
   rw[if_neg (by omega),if_neg j];by_cases g:12<x.Defs.length
   .grind
   rw[if_neg (by omega),if_neg g];have m:ea (ij l x) 0=some (fi () (ff (inF l x) x.Inputs.length)):=
    kh (λk=>(k:Int)) _ _ _ (λk hk _=>by
     unfold ij inF;rw[if_pos (by omega),Ea hk,kaa,fw (by omega),kaa,Wv (g4 _ (taa hk)) (by grind) (by simp),kaa,naa hk,wid (n:=100+(k:Int)) (by omega) (by omega),va (by omega)];dsimp only;by_cases a:Fw l x.Inputs[k] (x.Inputs.take k) []=0
     .rw[if_neg (by omega),if_pos a];rfl
     .rw[if_pos a,if_neg a];rfl) (λ_=>by grind[ij])
   have o:ea (fj l x) 0=some (fi () (ff (sP l x) x.Defs.length)):=
    kh (λk=>(k:Int)) _ _ _ (λk hk _=>by
     unfold fj sP;rw[if_pos (by omega),Ea hk,kaa,fw (by omega),kaa,Wv (g5 _ (taa hk)) g3 (by grind),kaa,naa hk,wid (n:=200+(k:Int)) (by omega) (by omega),va (by omega)];dsimp only;by_cases a:Fw l x.Defs[k] x.Inputs (x.Defs.take k)=0
     .rw[if_neg (by omega),if_pos a];rfl
     .rw[if_pos a,if_neg a];rfl) (λ_=>by grind[fj])
   have p:ea (dj x (iH l x)) 0=some (fi () (ff (GQ l x) x.Rules.length)):=
    kh (λk=>(k:Int)) _ _ _ (λk hk _=>by
     unfold dj GQ;rw[if_pos (by omega),fE g2 hk (b _ (taa hk)),kaa,naa hk,wid (n:=300+(k:Int)) (by omega) (by omega),va (by omega)];dsimp only;by_cases a:RD x (iH l x) k x.Rules[k]=0
     .rw[if_neg (by omega),if_pos a];rfl
     .rw[if_pos a,if_neg a];rfl) (λ_=>by grind[dj])
   have t:ea (cj x) 0=some (fi () (ff (zU x) x.Defs.length)):=
    kh (λk=>(k:Int)) _ _ _ (λk hk _=>by
     obtain⟨q,q1,q2,q3⟩:=tm g2 (k:Int);unfold cj zU;rw[if_pos (by omega),q1,kaa,cK (by omega),kaa,wid (n:=200+(k:Int)) (by omega) (by omega),va (by omega)];by_cases a:Way x (k:Int) (k:Int)
     .rw[if_pos (by simp_all),if_pos a];rfl
     .rw[if_neg (by simp_all),if_neg a];rfl) (λ_=>by grind[cj])
   rw[m,kaa]
   cases ff (inF l x) x.Inputs.length with
   |some v=>rfl
   |none=>
    simp only[fi];rw[o,kaa]
    cases ff (sP l x) x.Defs.length with
    |some v=>rfl
    |none=>
     simp only[fi];rw[hS,kaa,p,kaa]
     cases ff (GQ l x) x.Rules.length with
     |some v=>rfl
     |none=>
      simp only[fi];rw[t,kaa];cases ff (zU x) x.Defs.length<;>rfl
  .rfl
 .rfl
theorem ff_map{α β:Type}{f:Nat->Option α}(g:α->β) :ff (λk=>(f k).map g) n=(ff f n).map g:=by
 cases h1:ff f n with
 |none=>grind[sb]
 |some v=>grind[vb]
def le3(i:Nat) (v:Int×Int):GLawError:=⟨v.1,3,(i:Int),v.2⟩
theorem NZ{l:GLaw}(h:inF l x k=some v):v.1≠0:=by
 grind[inF]
theorem ER{l:GLaw}(h:sP l x k=some v):v.1≠0:=by
 grind[sP]
theorem gT{l:GLaw}(h:GQ l x k=some v):v.1≠0:=by
 grind[GQ]
theorem UI{f:Nat->Option (Int×Int)}(hf:∀{k v},f k=some v->v.1≠0) (h:ff f n=some v):v.1≠0:=by
 grind[vb]
noncomputable def xp(l:GLaw):GLawError:=
 if 8<l.Enums.length then⟨4,1,8,0⟩
 else match ff (λi=>match l.Enums[i]? with|some x=>if(Gl l i x).1=0 then none else some (⟨(Gl l i x).1,1,(i:Int),(Gl l i x).2⟩:GLawError)|none=>none) l.Enums.length with
  |some v=>v
  |none=>
   if 8<l.Tables.length then⟨4,2,8,0⟩
   else match ff (λi=>match l.Tables[i]? with|some x=>if(ft l i x).1=0 then none else some (⟨(ft l i x).1,2,(i:Int),(ft l i x).2⟩:GLawError)|none=>none) l.Tables.length with
    |some v=>v
    |none=>
     if 4<l.Scopes.length then⟨4,3,4,0⟩
     else(ff (λi=>match l.Scopes[i]? with|some x=>if(qp l i x).1=0 then none else some (le3 i (qp l i x))|none=>none) l.Scopes.length).getD ⟨0,0,0,0⟩
theorem Oy{f:Nat->Option GLawError}(hf:∀{k v},f k=some v->v.Code≠0) {v:GLawError}(h:ff f n=some v):v.Code≠0:=by
 grind[vb]
theorem DP{l:GLaw}{v:GLawError}(h:(match l.Enums[k]? with|some x=>if(Gl l k x).1=0 then none else some (⟨(Gl l k x).1,1,(k:Int),(Gl l k x).2⟩:GLawError)|none=>none)=some v):v.Code≠0:=by
 grind
theorem TQ{l:GLaw}{v:GLawError}(h:(match l.Tables[k]? with|some x=>if(ft l k x).1=0 then none else some (⟨(ft l k x).1,2,(k:Int),(ft l k x).2⟩:GLawError)|none=>none)=some v):v.Code≠0:=by
 grind
theorem ik{l:GLaw}(h:LawOk l):ql l=some (xp l):=by
 have hne:=h.ne;have hnt:=h.nt;have hns:=h.ns;have le:ea (bj l) 0=some (fi () (ff (λi=>match l.Enums[i]? with|some x=>if(Gl l i x).1=0 then none else some (⟨(Gl l i x).1,1,(i:Int),(Gl l i x).2⟩:GLawError)|none=>none) l.Enums.length)):=
  kh (λk=>(k:Int)) _ _ _ (λk hk _=>by
   unfold bj;rw[if_pos (by omega),Ea hk,kaa,eE h hk,kaa,naa hk,va (by omega)];dsimp only;by_cases a:(Gl l k l.Enums[k]).1=0
   .rw[if_neg (by omega),if_pos a];rfl
   .rw[if_pos a,if_neg a];rfl) (λ_=>by grind[bj])
 have ls:ea (Vh l) 0=some (fi () (ff (λi=>match l.Scopes[i]? with|some x=>if(qp l i x).1=0 then none else some (le3 i (qp l i x))|none=>none) l.Scopes.length)):=
  kh (λk=>(k:Int)) _ _ _ (λk hk _=>by
   unfold Vh;rw[if_pos (by omega),HC h hk,kaa,naa hk,va (by omega)];dsimp only;by_cases a:(qp l k l.Scopes[k]).1=0
   .rw[if_neg (by omega),if_pos a];rfl
   .rw[if_pos a,if_neg a];rfl) (λ_=>by grind[Vh])
 unfold ql iq Wo Vo xp;by_cases b:8<l.Enums.length
 .grind
 rw[if_neg (by omega),if_neg b,le]
 cases c:ff (λi=>match l.Enums[i]? with|some x=>if(Gl l i x).1=0 then none else some (⟨(Gl l i x).1,1,(i:Int),(Gl l i x).2⟩:GLawError)|none=>none) l.Enums.length with
 |some v=>
  have:=Oy (f:=λi=>match l.Enums[i]? with|some x=>if(Gl l i x).1=0 then none else some (⟨(Gl l i x).1,1,(i:Int),(Gl l i x).2⟩:GLawError)|none=>none) DP c
  simp_all[fi]
 |none=>
  simp only[fi,kaa];rw[if_neg (by simp)];by_cases b:8<l.Tables.length
  .grind
  rw[if_neg (by omega),if_neg b,HV h]
  cases d:ff (λi=>match l.Tables[i]? with|some x=>if(ft l i x).1=0 then none else some (⟨(ft l i x).1,2,(i:Int),(ft l i x).2⟩:GLawError)|none=>none) l.Tables.length with
  |some v=>
   have:=Oy (f:=λi=>match l.Tables[i]? with|some x=>if(ft l i x).1=0 then none else some (⟨(ft l i x).1,2,(i:Int),(ft l i x).2⟩:GLawError)|none=>none) TQ d
   simp_all[fi]
  |none=>
   simp only[fi,kaa];rw[if_neg (by simp)];by_cases b:4<l.Scopes.length
   .grind
   rw[if_neg (by omega),if_neg b,ls];cases ff (λi=>match l.Scopes[i]? with|some x=>if(qp l i x).1=0 then none else some (le3 i (qp l i x))|none=>none) l.Scopes.length<;>rfl
structure Valid (l:GLaw):Prop where
 e:∀i (h:i<l.Enums.length),(Gl l i l.Enums[i]).1=0
 t:∀i (h:i<l.Tables.length),(ft l i l.Tables[i]).1=0
 s:∀i (h:i<l.Scopes.length),(qp l i l.Scopes[i]).1=0
 ne:l.Enums.length<=8
 nt:l.Tables.length<=8
 ns:l.Scopes.length<=4
theorem xH{l:GLaw}(h:(xp l).Code=0):Valid l:=by
 unfold xp at h;split at h
 .grind
 rename_i h1;split at h
 .rename_i v hv;exact(Oy (f:=λi=>match l.Enums[i]? with|some x=>if(Gl l i x).1=0 then none else some (⟨(Gl l i x).1,1,(i:Int),(Gl l i x).2⟩:GLawError)|none=>none) DP hv h).elim
 rename_i he;split at h
 .grind
 rename_i h2;split at h
 .rename_i v hv;exact(Oy (f:=λi=>match l.Tables[i]? with|some x=>if(ft l i x).1=0 then none else some (⟨(ft l i x).1,2,(i:Int),(ft l i x).2⟩:GLawError)|none=>none) TQ hv h).elim
 rename_i ht;split at h
 .grind
 rename_i h3;refine⟨λi hi=>?_,λi hi=>?_,λi hi=>?_,by omega,by omega,by omega⟩
 .grind[sb]
 .grind[sb]
 .generalize hf:ff _ l.Scopes.length=o at h
  cases o with
  |some v=>
   rw[Nab]at h;obtain⟨k,c,a,-⟩:=vb.1 hf;rw[naa c]at a;dsimp only at a;split at a
   .grind
   .rename_i b;injection a with a;subst a;exact(b h).elim
  |none=>
   grind[sb]
theorem Valid.rows{l:GLaw}(h:Valid l):∀x∈l.Tables,x.Rows.length<=64:=by
 intro x hx;obtain⟨i,hi,rfl⟩:=waa hx;have:=h.t i hi
 grind[ft,jt]
theorem BA(hn:n<=1048576) (bad:Nat->Bool) {step:Int->Option (Ex Int Unit Bool)}(a:∀i:Nat,i<n->step (i:Int)=if bad i=true then some (.ret false)else some (.go (aa .i64 ((i:Int)+1)))) (b:step (n:Int)=some (.brk ())) :
 (ea step 0=some (.inr false))\/(ea step 0=some (.inl ())/\∀i,i<n->bad i=false):=by
 have h:=kh (step:=step) (x0:=0) (λi=>(i:Int)) (λi=>if bad i=true then some false else none) n () (λi hi _=>by
  rw[a i hi,va (by omega)];cases bad i<;>rfl) (λ_=>b)
 cases hf:ff (λi=>if bad i=true then some false else none) n with
 |none=>
  right;rw[hf]at h;refine⟨h,λi hi=>?_⟩
  grind[sb]
 |some v=>
  left;rw[hf]at h;obtain⟨k,-,c,-⟩:=vb.1 hf;split at c
  .injection c with c;subst c;exact h
  grind
structure SmallSc (s:GScope):Prop where
 nm:s.Name.size<=80
 ins:s.Inputs.length<=14
 defs:s.Defs.length<=14
 rules:s.Rules.length<=60
 i:∀f∈s.Inputs,f.Name.size<=80
 d:∀f∈s.Defs,f.Name.size<=80
 r:∀r∈s.Rules,r.Name.size<=80/\r.Source.size<=80/\r.Guard.length<=50/\r.Value.length<=50
variable {s:GScope}
theorem LB(s:GScope):∃b,Wg s=some b/\(b=true->SmallSc s):=by
 unfold Wg;by_cases h1:80<(s.Name.size:Int)
 .simp_all
 by_cases h2:14<(s.Inputs.length:Int)
 .simp_all
 by_cases h3:14<(s.Defs.length:Int)
 .simp_all
 by_cases h4:60<(s.Rules.length:Int)
 .simp_all
 have hc:(if¬80<(s.Name.size:Int)then if¬14<(s.Inputs.length:Int)then if¬14<(s.Defs.length:Int)then some (decide (60<(s.Rules.length:Int)))else some true else some true else some true)=some false:=by
  grind
 rw[hc,kaa,if_neg (by simp)];rcases BA (n:=s.Inputs.length) (by omega) (λi=>match s.Inputs[i]? with|some f=>decide (80<(f.Name.size:Int))|none=>false) (step:=oi s) (λi hi=>by
  grind[oi,Ea]) (by grind[oi])with k|⟨k,k1⟩
 .grind
 rw[k,kaa];dsimp only;rcases BA (n:=s.Defs.length) (by omega) (λi=>match s.Defs[i]? with|some f=>decide (80<(f.Name.size:Int))|none=>false) (step:=ki s) (λi hi=>by
  grind[ki,Ea]) (by grind[ki])with k|⟨k,k2⟩
 .grind
 rw[k,kaa];dsimp only;rcases BA (n:=s.Rules.length) (by omega) (λi=>match s.Rules[i]? with|some r=>decide (80<(r.Name.size:Int)\/80<(r.Source.size:Int)\/50<(r.Guard.length:Int)\/50<(r.Value.length:Int))|none=>false) (step:=ji s) (λi hi=>by
  unfold ji;rw[if_pos (by omega),Ea hi,kaa,naa hi]
  grind) (by grind[ji])with k|⟨k,k3⟩
 .grind
 rw[k,kaa];refine⟨true,rfl,λ_=>⟨by omega,by omega,by omega,by omega,?_,?_,?_⟩⟩
 .intro f hf;obtain⟨i,hi,rfl⟩:=waa hf
  grind
 .intro f hf;obtain⟨i,hi,rfl⟩:=waa hf
  grind
 .intro r hr;obtain⟨i,hi,rfl⟩:=waa hr
  grind
def Zs(l:GLaw):Nat->Int
 |0=>0
 |k+1=>match l.Tables[k]? with|some t=>aa .i64 (Zs l k+(t.Rows.length:Int))|none=>Zs l k
structure SmallL (l:GLaw):Prop where
 ne:l.Enums.length<=9
 nt:l.Tables.length<=9
 ns:l.Scopes.length<=5
 e:∀x∈l.Enums,x.Name.size<=80/\x.Members.length<=20/\∀m∈x.Members,m.size<=80
 t:∀x∈l.Tables,x.Name.size<=80
 s:∀x∈l.Scopes,SmallSc x
 rt:∀i,i<l.Tables.length->Zs l (i+1)<=150
variable {l:GLaw}
def Xy(l:GLaw):Nat->Int
 |0=>0
 |k+1=>match l.Scopes[k]? with|some t=>aa .i64 (Xy l k+(t.Rules.length:Int))|none=>Xy l k
def jZ(l:GLaw) (i:Nat):Bool:=match l.Enums[i]? with|some x=>decide (80<(x.Name.size:Int)) || decide (20<(x.Members.length:Int)) || (x.Members.any λm=>decide (80<(m.size:Int)))|none=>false
theorem vM(hi:i<l.Enums.length):jZ l i=(decide (80<(l.Enums[i].Name.size:Int)) || decide (20<(l.Enums[i].Members.length:Int)) || (l.Enums[i].Members.any λm=>decide (80<(m.size:Int)))):=by
 grind[jZ]
theorem bt(l:GLaw):∃b,Dj l=some b/\(b=true->SmallL l):=by
 unfold Dj;by_cases h1:9<(l.Enums.length:Int)
 .simp_all
 by_cases h2:9<(l.Tables.length:Int)
 .simp_all
 by_cases h3:5<(l.Scopes.length:Int)
 .simp_all
 have hc:(if¬9<(l.Enums.length:Int)then if¬9<(l.Tables.length:Int)then some (decide (5<(l.Scopes.length:Int)))else some true else some true)=some false:=by
  grind
 rw[hc,kaa,if_neg (by simp)];have d:∀i (hi:i<l.Enums.length),l.Enums[i].Members.length<=20->ea (Ih l (i:Int)) 0=some (if(l.Enums[i].Members.any λm=>decide (80<(m.size:Int)))=true then .inr (.ret false)else .inl ()):=by
  intro i hi hm;have h:=kh (step:=Ih l (i:Int)) (x0:=0) (λk=>(k:Int)) (λk=>if(l.Enums[i].Members[k]?.any λm=>decide (80<(m.size:Int)))=true then some (Ex.ret false)else none) l.Enums[i].Members.length () (λk hk _=>by
   unfold Ih;rw[Ea hi,kaa,if_pos (by omega),Ea hk,kaa,naa hk,va (by omega)];simp only[Option.any_some,decide_eq_true_eq];by_cases hb:80<(l.Enums[i].Members[k].size:Int)
   .rw[if_pos hb,if_pos hb];rfl
   .rw[if_neg hb,if_neg hb];rfl) (λ_=>by grind[Ih,Ea])
  rw[h,←vK (g:=λ_=>(Ex.ret false:Ex Int Unit Bool))]
  cases hf:ff (λk=>if(l.Enums[i].Members[k]?.any λm=>decide (80<(m.size:Int)))=true then some (Ex.ret false:Ex Int Unit Bool)else none) l.Enums[i].Members.length with
  |none=>rfl
  |some v=>
   obtain⟨k,-,e,-⟩:=vb.1 hf;split at e
   .injection e with e;subst e;rfl
   grind
 rcases BA (n:=l.Enums.length) (by omega) (jZ l) (step:=sj l) (λi hi=>by
  have d:=d i hi;unfold sj;rw[if_pos (by omega),Ea hi,kaa,vM hi]
  grind) (by grind[sj])with k|⟨k,k1⟩
 .grind
 rw[k,kaa];dsimp only;have p:=kh (step:=rj l) (x0:=(0,0)) (λi=>(Zs l i,(i:Int))) (λi=>match l.Tables[i]? with|some x=>if(decide (80<(x.Name.size:Int)) || decide (150<Zs l (i+1)))=true then some false else none|none=>none) l.Tables.length () (λi hi _=>by
  unfold rj;simp only[Zs,naa hi];rw[if_pos (by omega),Ea hi,kaa,va (by omega)]
  grind[zE]) (λ_=>by grind[rj])
 rw[p,kaa]
 cases hf:ff (λi=>match l.Tables[i]? with|some x=>if(decide (80<(x.Name.size:Int)) || decide (150<Zs l (i+1)))=true then some false else none|none=>none) l.Tables.length with
 |some v=>
  refine⟨false,?_,by simp⟩;obtain⟨j,o,a,-⟩:=vb.1 hf;rw[naa o]at a;dsimp only at a;split at a
  .injection a with a;subst a;rfl
  grind
 |none=>
  have ht2:=sb.1 hf;dsimp only[fi];have hS:=kh (step:=qj l) (x0:=(0,0)) (λi=>(Xy l i,(i:Int))) (λi=>match l.Scopes[i]? with|some x=>if(decide (60<Xy l (i+1)) || !((Wg x).getD true))=true then some false else none|none=>none) l.Scopes.length () (λi hi _=>by
   unfold qj;simp only[Xy,naa hi];rw[if_pos (by omega),Ea hi,kaa,va (by omega)];obtain⟨b,hb,-⟩:=LB l.Scopes[i]
   grind[zE]) (λ_=>by grind[qj])
  rw[hS,kaa]
  cases c:ff (λi=>match l.Scopes[i]? with|some x=>if(decide (60<Xy l (i+1)) || !((Wg x).getD true))=true then some false else none|none=>none) l.Scopes.length with
  |some v=>
   refine⟨false,?_,by simp⟩;obtain⟨j,o,a,-⟩:=vb.1 c;rw[naa o]at a;dsimp only at a;split at a
   .injection a with a;subst a;rfl
   grind
  |none=>
   have f:=sb.1 c;refine⟨true,rfl,λ_=>⟨by omega,by omega,by omega,?_,?_,?_,λi hi=>?_⟩⟩
   .intro x hx;obtain⟨i,hi,rfl⟩:=waa hx
    grind[vM]
   .intro x hx;obtain⟨i,hi,rfl⟩:=waa hx
    grind
   .intro x hx;obtain⟨i,hi,rfl⟩:=waa hx;have:=f i hi;rw[naa hi]at this;dsimp only at this;split at this
    .cases this
    .rename_i hn;obtain⟨b,hb,hb2⟩:=LB l.Scopes[i]
     grind
   grind
theorem wJ{l:GLaw}(hr:∀t∈l.Tables,t.Rows.length<=1125899906842624) (hn:l.Tables.length<=9):∀n,n<=l.Tables.length->0<=Zs l n/\Zs l n<=1125899906842624*n/\∀i (hi:i<l.Tables.length),i<n->(l.Tables[i].Rows.length:Int)<=Zs l n
 |0,_=>by simp[Zs]
 |n+1,h=>by
  obtain⟨h1,h2,h3⟩:=wJ hr hn n (by omega)
  grind[Zs,wid]
theorem SmallL.rows(h:SmallL l) (hr:∀t∈l.Tables,t.Rows.length<=1125899906842624):∀t∈l.Tables,t.Rows.length<=150:=by
 intro t ht;obtain⟨i,hi,rfl⟩:=waa ht;obtain⟨-,-,a⟩:=wJ hr h.nt (i+1) hi;have:=a i hi (by omega);have:=h.rt i hi;omega
def vI(l:GLaw):Prop:=∀s∈l.Scopes,∀r∈s.Rules,(∀n∈r.Guard,Kd n)/\∀n∈r.Value,Kd n
theorem SmallL.ok(h:SmallL l) (ht:vI l):LawOk l:=by
 have hne:=h.ne;have hnt:=h.nt;have hns:=h.ns;refine⟨by omega,by omega,by omega,λx hx=>?_,λx hx=>?_,λx hx=>?_⟩
 .obtain⟨a,b,c⟩:=h.e x hx
  grind
 .have:=h.t x hx;omega
 .obtain⟨a,b,c,d,e,f,g⟩:=h.s x hx;refine⟨by omega,⟨by omega,by omega,λr hr=>by grind⟩,by omega,λq hq=>by grind,λq hq=>by grind,λr hr=>?_⟩;have:=g r hr;obtain⟨t1,t2⟩:=ht x hx r hr
  grind
end Go.Proofs.Dev
