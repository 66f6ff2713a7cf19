/-
  The functions as plain partial functions, and plain lemmas about them: no condition.
-/
import Derived.Test.YtjjfnbpfgfopbaaGreatDoorPA
open Bool renaming and_false->Fae,false_and->Gae,false_eq_true->Eaa,not_false->Xac,not_true->Uac,true_and->xac,true_eq_false->tab
open ByteArray renaming empty->xae,mk->yaa
open Classical renaming not_forall->Zad,not_imp->qae
open Int renaming natAbs_tdiv->yae,reduceBEq->Baa,reduceEq->vaa,tdiv->cab,tdiv_nonneg->Aae,tmod->Bab
open List renaming foldl_cons->gab,getElem?_eq_getElem->qaa,getElem_mem->xaa,getElem_of_mem->Aaa,getElem_take->Vac,length_filter_le->eab,mem_cons->oab,mem_filter->hac,mem_map->fab,mem_of_mem_drop->wad,mem_singleton->uab,nodup_cons->Iab,pairwise_cons->Vab,range->zaa,replicate->raa,take_add_one->Uaa
open Nat renaming add_zero->iac
open Option renaming bind->oaa,bind_some->naa,getD_some->Rab,isSome_iff_exists->Hac
open Option.some renaming injEq->aab
set_option linter.all false
namespace Go.Tm
variable {α β ρ σ:Type}
theorem wid{n:Int}(h1:-9223372036854775808<=n) (h2:n<9223372036854775808):ca .i64 n=n:=by
 grind[ca,vC]
theorem Ha{i:Nat}(h:i<4611686018427387904):ca .i64 ((i:Int)+1)=((i+1:Nat):Int):=by
 grind[wid]
theorem Pa{l:List α}{i:Nat}(h:i<l.length):idx l (i:Int)=some l[i]:=by
 grind[idx]
theorem MU{l:List α}{i:Nat}:idx l (i:Int)=l[i]?:=by
 simp[idx]
theorem pn{l:List α}{i:Int}(h1:0<=i) (h2:i<l.length):idx l i=some (l[i.toNat]'(by omega)):=by
 simp_all[idx]
theorem GW{b:ByteArray}{i:Nat}(h:i<b.size):Bv b (i:Int)=some (b[i].toNat:Int):=by
 simp_all[Bv]
theorem Nv{l:List α}{i:Nat}(h:i<=l.length):Tr l (i:Int)=some (l.take i):=by
 simp_all[Tr]
theorem OW{l:List α}{i:Nat}(h:i<=l.length):Zy l (i:Int)=some (l.drop i):=by
 simp_all[Zy]
theorem kj{b:Nat}{l r:List α}(h:(l.length+r.length)*b<=140737488355328):app b l r=some (l++r):=if_pos (by omega)
theorem Ty{l:List α}{i:Nat}{x:α}(h:i<l.length):put l (i:Int) x=some (l.set i x):=by
 simp_all[put]
theorem nB{b n:Nat}{x:α}(h:n*b<=281474976710656) (h2:n<=4611686018427387904):Nw b x (n:Int) (n:Int)=some (raa n x):=by
 grind[Nw]
def ff(f:Nat->Option ρ):Nat->Option ρ
 |0=>none
 |n+1=>match f 0 with|some v=>some v|none=>ff (λi=>f (i+1)) n
theorem Jb{f:Nat->Option ρ}:∀{n:Nat},ff f n=none↔∀i,i<n->f i=none
 |0=>by simp[ff]
 |n+1=>by
  simp only[ff];constructor
  .intro h i hi
   cases a:f 0 with
   |some v=>simp_all
   |none=>
    simp only[a]at h
    cases i with
    |zero=>omega
    |succ i=>exact(Jb (f:=λi=>f (i+1))).1 h i (by omega)
  .intro h;rw[h 0 (by omega)];exact Jb.2 λi hi=>h (i+1) (by omega)
theorem Ob{f:Nat->Option ρ}{v:ρ}:∀{n:Nat},ff f n=some v↔∃i,i<n/\f i=some v/\∀j,j<i->f j=none
 |0=>by simp[ff]
 |n+1=>by
  simp only[ff];constructor
  .intro h
   cases b:f 0 with
   |some w=>grind
   |none=>
    simp only[b]at h;obtain⟨i,c,h2,a⟩:=(Ob (f:=λi=>f (i+1))).1 h;exact⟨i+1,by omega,h2,λj hj=>by cases j with|zero=>omega|succ j=>simp_all⟩
  .rintro⟨i,c,h2,a⟩
   cases i with
   |zero=>rw[h2]
   |succ i=>
    rw[a 0 (by omega)];exact Ob.2 ⟨i,by omega,h2,λj hj=>a (j+1) (by omega)⟩
def Ki(b:β):Option ρ->β⊕ρ
 |none=>.inl b
 |some v=>.inr v
def aD(s:σ):Option ρ->Ex σ β ρ
 |none=>.go s
 |some v=>.ret v
theorem aN{b:β}:Ki b (none:Option ρ)=.inl b:=rfl
theorem outR_s{b:β}{v:ρ}:Ki b (some v)=.inr v:=rfl
theorem goR_n{s:σ}:(aD s (none:Option ρ):Ex σ β ρ)=.go s:=rfl
theorem FO{s:σ}{v:ρ}:(aD s (some v):Ex σ β ρ)=.ret v:=rfl
theorem Th{step:σ->Option (Ex σ β ρ)}{x0:σ}(S:Nat->σ) (f:Nat->Option ρ) (n:Nat) (b:β)
 (e:∀i,i<n->(∀j,j<i->f j=none)->step (S i)=some (aD (S (i+1)) (f i))) (a:(∀j,j<n->f j=none)->step (S n)=some (.brk b)) (d:x0=S 0:=by rfl) :
 ja step x0=some (Ki b (ff f n)):=by
 have key:∀k i,i+k=n->(∀j,j<i->f j=none)->ja step (S i)=some (Ki b (ff (λj=>f (i+j)) k)):=by
  intro k
  induction k with
  |zero=>
   intro i hi hf;rw[iac]at hi;subst hi;rw[Gb (a hf)];rfl
  |succ k g=>
   intro i hi hf;have c:=e i (by omega) hf;simp only[ff,iac]
   cases d:f i with
   |some v=>
    rw[d]at c;rw[aq c];rfl
   |none=>
    rw[d]at c;rw[ud c,g (i+1) (by omega) λj hj=>by grind]
    grind
 simp_all
theorem Yg{step:σ->Option (Ex σ β ρ)}{x0:σ}(S:Nat->σ) (n:Nat) (b:β) (hgo:∀i,i<n->step (S i)=some (.go (S (i+1)))) (hend:step (S n)=some (.brk b)) (h0:x0=S 0:=by rfl):ja step x0=some (.inl b):=by
 have key:∀k i,i+k=n->ja step (S i)=some (.inl b):=by
  intro k
  induction k with
  |zero=>simp_all[Gb]
  |succ k ih=>grind[ud]
 simp_all
theorem QU{l:List α}{p:α->Option Bool}(q:α->Bool) (a:∀x∈l,p x=some (q x)) (hl:l.length<4611686018427387904) :
 ja (λ(s:Int)=>if s<(l.length:Int)then(idx l s).bind λx=>(p x).bind λc=>if c=true then some (Ex.ret s)else some (Ex.go (ca .i64 (s+1)))else some (Ex.brk ())) 0
  = some (Ki () (ff (λi=>if(l[i]?.any q)=true then some (i:Int)else none) l.length)):=by
 refine Th (λi=>(i:Int)) _ l.length () (λi hi _=>?_) (λ_=>?_)
 .rw[if_pos (by omega),Pa hi,naa,a _ (xaa hi),naa,wid (by omega) (by omega)]
  grind[aD]
 simp
theorem yI{l:List α}{q:α->Bool}{g:Nat->ρ}:(ff (λi=>if(l[i]?.any q)=true then some (g i)else none) l.length).isSome=l.any q:=by
 rw[Bool.eq_iff_iff,Hac,List.any_eq_true];constructor
 .grind[Ob]
 .rintro⟨x,hx,hq⟩;rw[←Hac,←Option.not_isNone,Bool.not_eq_true',Option.isNone_eq_false_iff,Option.isSome_iff_ne_none];intro hn;obtain⟨i,hi,rfl⟩:=Aaa hx
  grind[Jb]
theorem Np{l:List α}{p:α->Option Bool}(q:α->Bool) (a:∀x∈l,p x=some (q x)) (hl:l.length<4611686018427387904) {o:Option (Unit⊕Int)}
 (ho:o=ja (λ(s:Int)=>if s<(l.length:Int)then(idx l s).bind λx=>(p x).bind λc=>if c=true then some (Ex.ret s)else some (Ex.go (ca .i64 (s+1)))else some (Ex.brk ())) 0) :
 ((o.bind λy=>match y with|.inr v=>some v|.inl _=>some (-1)).bind λx=>some (decide (0<=x)))=some (l.any q):=by
 rw[ho,QU q a hl];rw[←yI (q:=q) (g:=λi=>(i:Int))]
 cases h:ff (λi=>if(l[i]?.any q)=true then some (i:Int)else none) l.length with
 |none=>simp[Ki]
 |some v=>
  grind[Ki,Ob]
end Go.Tm
set_option maxRecDepth 10000
namespace Go.Proofs.Dev
open Go Go.Tm
def lowB(c:Int):Bool:=decide (97<=c)&&decide (c<=122)
def digB(c:Int):Bool:=decide (48<=c)&&decide (c<=57)
def F6(c:Int):Bool:=lowB c || digB c || c==95
theorem jN{a b c:Int}:(oaa (if a<=c then some (decide (c<=b))else some false) λj=>some j)=some (decide (a<=c)&&decide (c<=b)):=by
 grind
theorem Lv(c:Int):Ln c=some (lowB c):=jN
theorem LC(c:Int):rq c=some (digB c):=jN
def GB(s:ByteArray) (i:Nat):Bool:=if h:i<s.size then F6 (s[i].toNat:Int)else false
def VC(s:ByteArray):Bool:=(ff (λi=>if GB s i=true then none else some ()) s.size).isNone
theorem Ny{s:ByteArray}(hs:s.size<4611686018427387904):∃n,Nj s=some n/\(n=(s.size:Int)↔VC s=true):=by
 have hstep:∀i:Nat,i<s.size->Dd s (i:Int)=some (if GB s i=true then .go ((i+1:Nat):Int)else .brk (i:Int)):=by
  intro i hi;unfold Dd;rw[if_pos (by omega),GW hi,naa];simp only[Lv,LC,naa,GB,dif_pos hi,F6]
  grind[wid]
 have w1:∀i,(if GB s i=true then none else some ())=none->GB s i=true:=λi h=>by
  simp_all
 unfold Nj
 cases h:ff (λi=>if GB s i=true then none else some ()) s.size with
 |none=>
  have a:=Jb.1 h;have hl:ja (Dd s) 0=some (.inl (s.size:Int)):=Yg (λi=>(i:Int)) s.size (s.size:Int)
   (λi hi=>by simp_all) (by grind[Dd])
  rw[hl];exact⟨_,rfl,by grind[VC]⟩
 |some v=>
  obtain⟨k,a,h2,h3⟩:=Ob.1 h;have hl:ja (Dd s) 0=some (.inl (k:Int)):=Yg (λi=>(i:Int)) k (k:Int)
   (λi hi=>by grind) (by
    simp_all)
  rw[hl];exact⟨_,rfl,by grind[VC]⟩
theorem N9{p:Prop} [Decidable p] {b:Bool}:(if p then some true else some b)=some (decide p || b):=by
 grind
theorem tN(s:ByteArray):∃b,Ch s=some b:=by
 unfold Ch;simp (config := { maxSteps := 4000000 }) only[N9,naa];simp
noncomputable def resB(s:ByteArray):Bool:=(Ch s).getD false
theorem uN(s:ByteArray):Ch s=some (resB s):=by
 obtain⟨b,h⟩:=tN s
 grind[resB]
noncomputable def nr(s:ByteArray):Bool:=if h:0<s.size/\s.size<=16 then lowB (s[0].toNat:Int)&&VC s&&!(resB s)else false
theorem YG{s:ByteArray}:s=yaa #[]↔s.size=0:=by
 constructor
 .rintro rfl;rfl
 .intro h;obtain⟨a⟩:=s;congr 1;exact Array.eq_empty_of_size_eq_zero h
theorem xo{s:ByteArray}(b:s.size<4611686018427387904):Ab s=some (nr s):=by
 obtain⟨n,hn,a⟩:=Ny b;unfold Ab nr;by_cases h0:s.size=0
 .simp_all[YG]
 .have hx:Bv s 0=some (s[0].toNat:Int):=GW (i:=0) (by omega);rw[if_pos (by grind[YG]),hx];simp only[naa,Lv,hn,a,uN]
  grind
def va(t:GType) (e:List GEnum):Bool:=
 if t.Kind=6 then decide (0<=t.Enum)&&decide (t.Enum<(e.length:Int))else decide (1<=t.Kind)&&decide (t.Kind<=5)&&(t.Enum==0)
noncomputable def vtX(t0:GType) (t1:List GEnum):Option Bool:=
 if t0.Kind=6 then
  oaa (α:=Bool) (
   if 0<=t0.Enum then
    some (decide (t0.Enum<(t1.length:Int)))
   else
   some false) λa=>
  some a
 else
 oaa (α:=Bool) (
  if 1<=t0.Kind then
   if t0.Kind<=5 then
    some (t0.Enum==0)
   else
   some false
  else
  some false) λb=>
 some b
theorem vtX_s(t:GType) (e:List GEnum):vtX t e=some (va t e):=by
 grind[vtX,va]
theorem Zb(t:GType) (e:List GEnum):vc t e=some (va t e):=by
 rw[←vtX_s]
 grind[vc,vtX]
theorem aQ(t:GType) (e:List GEnum):∃p,kd t e=some p:=by
 unfold kd;rw[Zb,naa]
 cases h:va t e with
 |false=>simp
 |true=>
  simp only[tab,if_false]
  repeat' split
  all_goals first|exact⟨_,rfl⟩|skip
  have a:t.Kind=6:=by
   grind[va]
  unfold va at h;rw[if_pos a]at h;simp at h;rw[pn h.1 h.2];simp
noncomputable def ZP(t:GType) (e:List GEnum):Int×Int:=(kd t e).getD (0,0)
theorem Om(t:GType) (e:List GEnum):kd t e=some (ZP t e):=by
 obtain⟨p,hp⟩:=aQ t e
 grind[ZP]
noncomputable def aR(n:Int) (t:GType) (e:List GEnum):Bool:=decide ((ZP t e).1<=n)&&decide (n<=(ZP t e).2)
def E6(r:GDateRange):Bool:=decide (0<=r.From)&&(decide (r.From<=r.To)&&decide (r.To<=109573))
theorem Oo(r:GDateRange):Sc r=some (E6 r):=by
 grind[Sc,E6]
def TD(a b:GRow):Bool:=E6 a.Valid&&E6 b.Valid&&decide (max a.Valid.From b.Valid.From<min a.Valid.To b.Valid.To)&&decide (max a.Lo b.Lo<min a.Hi b.Hi)
theorem zB(a b:GRow):Lm a b=some (TD a b):=by
 unfold Lm lj Ec TD;simp only[Oo,naa];cases E6 a.Valid<;>cases E6 b.Valid<;>simp only[Eaa,if_false,if_true,naa,Xac,Uac,Gae,xac,Fae]
 all_goals grind
noncomputable def TN(x:GRow) (t:GTable) (e:List GEnum):Bool:=
 !(E6 x.Valid) || decide (x.Valid.From=x.Valid.To) || decide (x.Hi<=x.Lo) || !(aR x.Lo t.Key e) || !(aR (ca .i64 (x.Hi-1)) t.Key e) || !(aR x.N t.Value e)
noncomputable def FG(t:GTable) (e:List GEnum) (i:Nat):Option (Int×Int):=
 match t.Rows[i]? with
 |some x=>if TN x t e=true then some ((i:Int),3)else if((t.Rows.take i).any λy=>TD y x)=true then some ((i:Int),11)else none
 |none=>none
noncomputable def Br(t:GTable) (e:List GEnum):Int×Int:=
 if 64<t.Rows.length then(64,4)else if(va t.Key e&&va t.Value e)=false then(-1,8)else(ff (FG t e) t.Rows.length).getD (0,0)
theorem HM{l:List GRow}{x:GRow}(hl:l.length<4611686018427387904):∃p,Wb l (λy=>Md y x)=some p/\p.2=l.any λy=>TD y x:=by
 have a:ja (Lb l (λy=>Md y x)) 0=some (Ki () (ff (λi=>if(l[i]?.any λy=>TD y x)=true then some ((i:Int),true)else none) l.length)):=
  Th (λi=>(i:Int)) _ l.length () (λi hi _=>by
   unfold Lb;rw[if_pos (by omega),Pa hi,qaa hi]
   grind[Md,aD,zB,Ha]) (λ_=>by grind[Lb])
 unfold Wb;rw[a,←yI (q:=λy=>TD y x) (g:=λi=>((i:Int),true)),naa]
 cases h:ff (λi=>if(l[i]?.any λy=>TD y x)=true then some ((i:Int),true)else none) l.length with
 |none=>exact⟨_,rfl,rfl⟩
 |some v=>
  obtain⟨k,h1,h2,-⟩:=Ob.1 h;refine⟨_,rfl,?_⟩
  grind
theorem yB(t:GTable) (e:List GEnum):Uj t e=some (Br t e):=by
 unfold Uj Br;by_cases a:64<t.Rows.length
 .grind
 .rw[if_neg (by omega),if_neg a];simp only[Zb,Om,naa];have hl:ja (Ui t (ZP t.Key e) (ZP t.Value e)) 0=some (Ki () (ff (FG t e) t.Rows.length)):=
   Th (λi=>(i:Int)) _ t.Rows.length () (λi hi _=>by
    unfold Ui FG;rw[if_pos (by omega),Pa hi,qaa hi];simp only[naa,Oo];rw[Nv (by omega),Ha (by omega)];obtain⟨p,hp,hp2⟩:=HM (l:=t.Rows.take i) (x:=t.Rows[i]) (by grind)
    grind[TN,aR,aD]) (λ_=>by grind[Ui])
  rw[hl];cases va t.Key e<;>cases va t.Value e<;>simp only[Eaa,if_false,if_true,naa,Xac,Uac,Gae,xac,Fae,tab];cases ff (FG t e) t.Rows.length<;>rfl
def He(op:Int):Int:=
 if(1<=op/\op<=9)\/(35<=op/\op<=39)then 0
 else if op=10\/op=25\/(31<=op/\op<=34)then 1
 else if op=26 then 3
 else if 11<=op/\op<=30 then 2 else -1
theorem XE{op:Int}(h:1<=op/\op<=39):op=1\/op=2\/op=3\/op=4\/op=5\/op=6\/op=7\/op=8\/op=9\/op=10\/op=11\/op=12\/op=13\/op=14\/op=15\/op=16\/op=17\/op=18\/op=19\/op=20\/op=21\/op=22\/op=23\/op=24\/op=25\/op=26\/op=27\/op=28\/op=29\/op=30\/op=31\/op=32\/op=33\/op=34\/op=35\/op=36\/op=37\/op=38\/op=39:=by omega
theorem MA{op:Int}(h:¬(1<=op/\op<=39)):He op = -1:=by
 grind[He]
theorem mn(op:Int):aj op=some (He op):=by
 by_cases h:1<=op/\op<=39
 .rcases XE h with h|h|h|h|h|h|h|h|h|h|h|h|h|h|h|h|h|h|h|h|h|h|h|h|h|h|h|h|h|h|h|h|h|h|h|h|h|h|h<;>subst h<;>simp[aj,He]
 .rw[MA h];unfold aj;have hn:∀k:Int,1<=k->k<=39->¬op=k:=λk h1 h2 he=>h (by omega);simp[hn]
def ij(op:Int):Bool:=decide ((1<=op/\op<=8)\/(14<=op/\op<=16)\/(33<=op/\op<=34)\/(36<=op/\op<=39))
theorem nc{op:Int}(h:1<=op/\op<=39):xm op=some (ij op):=by
 rcases XE h with h|h|h|h|h|h|h|h|h|h|h|h|h|h|h|h|h|h|h|h|h|h|h|h|h|h|h|h|h|h|h|h|h|h|h|h|h|h|h<;>subst h<;>simp[xm,ij]
def DG(k:Int):Bool:=k==2 || k==3 || k==4
theorem Un(k:Int):Pf k=some (DG k):=by
 grind[Pf,DG]
noncomputable def td(n:GNode) (ops:List GType) (s:GSignature):Option (GType×Int):=
 oaa (α:=Bool) (if¬n.N=0 then(xm n.Op).bind λx=>some (!x)else some false) λj=>if j=true then some ((GType.mk 0 0),2)else La n ops s
def Bd(n:GNode):Prop:=-9223372036854775808<=n.N/\n.N<=9223372036854775807
theorem fX{n:Int}{k:Int}(hk:1<=k) (h:-9223372036854775808<=n/\n<=9223372036854775807):ca .i64 (cab n k)=cab n k:=by
 have h1:(cab n k).natAbs<=n.natAbs:=by
  rw[yae];exact Nat.div_le_self _ _
 by_cases hn:n = -9223372036854775808
 .by_cases a:k=1
  .subst a;subst hn;rfl
  .have:(cab n k).natAbs<n.natAbs:=by
    rw[yae];exact Nat.div_lt_self (by omega) (by omega)
   grind[wid]
 grind[wid]
end Go.Proofs.Dev
set_option maxHeartbeats 1000000
namespace Go.Proofs.Dev
open Go Go.Tm
theorem gJ{t:GType}{e:List GEnum}(h:va t e=true) (hk:t.Kind≠6):t.Enum=0:=by
 simp_all[va]
theorem gS{k:Int}{e:List GEnum}(h1:1<=k) (h2:k<=5):va ⟨k,0⟩ e=true:=by
 grind[va]
theorem dS{e:List GEnum}:va ⟨1,0⟩ e=true:=gS (by omega) (by omega)
theorem QN{e:List GEnum}:va ⟨2,0⟩ e=true:=gS (by omega) (by omega)
theorem Y4{e:List GEnum}:va ⟨3,0⟩ e=true:=gS (by omega) (by omega)
theorem vt_4{e:List GEnum}:va ⟨4,0⟩ e=true:=gS (by omega) (by omega)
theorem vt_5{e:List GEnum}:va ⟨5,0⟩ e=true:=gS (by omega) (by omega)
theorem tE{N:Int}:(if¬N=0 then(some true).bind λx=>some (!x)else some false)=some false:=by simp
theorem xO{N:Int}:(if¬N=0 then(some false).bind λx=>some (!x)else some false)=some (!(N==0)):=by
 grind
theorem BC{α:Type}{x:α}{Q:α->Prop}:(∃r,some x=some r/\Q r)=Q x:=by simp
theorem cD{α:Type}{l:List α}{N:Int}(d:α) (h0:0<=N) (h1:N<(l.length:Int)):idx l N=some ((l[N.toNat]?).getD d):=by
 grind[pn]
theorem Dl{α:Type}{x:α}{l:List α}:idx (x::l) 0=some x:=rfl
theorem PM{α:Type}{x y:α}{l:List α}:idx (x::y::l) 1=some y:=rfl
theorem sZ{α:Type}{x y z:α}{l:List α}:idx (x::y::z::l) 2=some z:=rfl
theorem imp2{op N:Int}{s:GSignature}{a b:GType}{u:Bool}(hm:xm op=some u) (h1:La ⟨op,N⟩ [a,b] s=(Fb op [a,b]).bind λx=>if x.2=false then some (⟨0,0⟩,8)else some (x.1,0)) {t:GType}{ok:Bool}
 (hd:Fb op [a,b]=some (t,ok)) (hu:u=true\/N=0):td ⟨op,N⟩ [a,b] s=some (if ok=true then(t,0)else(⟨0,0⟩,8)):=by
 unfold td
 grind
def Mg(e:List GNode) (i:Nat):GNode:=(e[i]?).getD ⟨0,0⟩
theorem Ht{e:List GNode}{i:Nat}(h:i<e.length):e[i]=Mg e i:=by
 grind[Mg]
def Wj(e:List GNode):Nat->List Int×List Int
 |0=>([],[])
 |i+1=>
  let p:=Wj e i
  let a:=(He (Mg e i).Op).toNat
  let f:=if 0<a then(p.2[p.2.length-a]?).getD 0 else(i:Int)
  (p.1++[f],p.2.take (p.2.length-a)++[f])
theorem sD(e:List GNode):∀i,(Wj e i).1.length=i
 |0=>rfl
 |i+1=>by simp[Wj,sD e i]
def Gz(e:List GNode) (i:Nat):Option (List Int×Int×Int):=
 if He (Mg e i).Op<0 then some ([],(i:Int),2)
 else if((Wj e i).2.length:Int)<He (Mg e i).Op then some ([],(i:Int),5)
 else if 12<(Wj e (i+1)).2.length then some ([],(i:Int),16)else none
def tp(e:List GNode):List Int×Int×Int:=
 if 48<e.length then([],0,4)else if e.length=0 then([],0,5)
 else match ff (Gz e) e.length with
  |some v=>v
  |none=>if 1<(Wj e e.length).2.length then([],(e.length:Int),4)else((Wj e e.length).1,0,0)
theorem Ix{e:List GNode}{i:Nat}(h:∀j,j<i->Gz e j=none):(Wj e i).2.length<=12:=by
 cases i with
 |zero=>simp[Wj]
 |succ i=>
  have:=h i (by omega)
  grind[Gz]
theorem Z2{p:List Int}{i n:Nat}{f:Int}(hp:p.length=i) (h:i<n):(p++raa (n-i) 0).set i f=p++[f]++raa (n-(i+1)) 0:=by
 obtain⟨k,hk⟩:∃k,n-i=k+1:=⟨n-i-1,by omega⟩;have hk':n-(i+1)=k:=by omega
 simp_all[List.replicate_succ]
theorem EO{p r:List Int}{i:Nat}{f:Int}(hp:p.length=i):(p++[f]++r)[i]?=some f:=by
 simp_all
theorem Tp(e:List GNode):Ej e=some (tp e):=by
 unfold Ej tp;by_cases g:48<e.length
 .grind
 rw[if_neg (by omega),if_neg g];by_cases j:e.length=0
 .simp_all
 rw[if_neg (by omega),if_neg j,nB (by omega) (by omega),naa];have hl:ja (Bi e) (raa e.length 0,([]:List Int),0)=some (Ki ((Wj e e.length).1,(Wj e e.length).2) (ff (Gz e) e.length)):=by
  refine Th (λi=>((Wj e i).1++raa (e.length-i) 0,(Wj e i).2,(i:Int))) (Gz e) e.length _ (λi hi hf=>?_) (λ_=>?_) ?_
  .have hs:=Ix hf;have hl:=sD e i;unfold Bi Gz;simp only;rw[if_pos (by omega),Pa hi,naa,Ht hi,mn,naa];by_cases ha:He (Mg e i).Op<0
   .rw[if_pos ha,if_pos ha];rfl
   rw[if_neg ha,if_neg ha];by_cases hb:((Wj e i).2.length:Int)<He (Mg e i).Op
   .rw[if_pos hb,if_pos hb];rfl
   rw[if_neg hb,if_neg hb];obtain⟨a,c⟩:∃a:Nat,He (Mg e i).Op=a:=⟨(He (Mg e i).Op).toNat,by omega⟩;have h:Wj e (i+1)=((Wj e i).1++[if 0<a then((Wj e i).2[(Wj e i).2.length-a]?).getD 0 else(i:Int)],(Wj e i).2.take ((Wj e i).2.length-a)++[if 0<a then((Wj e i).2[(Wj e i).2.length-a]?).getD 0 else(i:Int)]):=by
    grind[Wj]
   have f:ca .i64 (((Wj e i).2.length:Int)-(a:Int))=(((Wj e i).2.length-a:Nat):Int):=by
    grind[wid]
   rw[c,h,f];generalize hS:(Wj e i).2=sk at *;generalize (Wj e i).1=st at *;rw[c]at hb;rw[Pa (i:=i) (by grind),naa,Ty (by grind),naa,Z2 hl hi,Nv (by omega)];by_cases b:0<a
   .have hk:sk.length-a<sk.length:=by omega
    rw[if_pos (by omega),if_pos b,Pa hk,naa,Pa (i:=i) (by simp_all),naa,Ty (by simp_all),naa];have d:(st++[(i:Int)]++raa (e.length-(i+1)) 0).set i sk[sk.length-a]=st++[sk[sk.length-a]]++raa (e.length-(i+1)) 0:=by
     simp_all
    rw[d,naa,naa,qaa hk,Rab,MU,EO hl,naa];rw[kj (by grind),naa];by_cases hd:12<(sk.take (sk.length-a)++[sk[sk.length-a]]).length
    .grind
    .rw[if_neg (by omega),if_neg hd,Ha (by omega)];rfl
   .rw[if_neg (by omega),if_neg b,naa,naa,MU,EO hl,naa];rw[kj (by grind),naa];by_cases hd:12<(sk.take (sk.length-a)++[(i:Int)]).length
    .rw[if_pos (by omega),if_pos hd];rfl
    .rw[if_neg (by omega),if_neg hd,Ha (by omega)];rfl
  all_goals grind[Bi,Wj]
 grind[Ki]
def DA(n:GNode) (ops:List GType) (s:GSignature):Prop:=∃r,td n ops s=some r/\(r.2=0->va r.1 s.Enums=true)
theorem uV{n:GNode}{s:GSignature}{k:Int}(hk:1<=k/\k<=5) (hn:n.Op=k):DA n [] s:=by
 have hu:=nc (op:=n.Op) (by omega);have hus:ij n.Op=true:=by grind[ij]
 have hv:va ⟨n.Op,0⟩ s.Enums=true:=gS (by omega) (by omega);have a:td n [] s=some (if(ZP ⟨n.Op,0⟩ s.Enums).1<=n.N/\n.N<=(ZP ⟨n.Op,0⟩ s.Enums).2 then(⟨n.Op,0⟩,0)else(⟨0,0⟩,3)):=by
  grind[xe,ZP,La,td,Om]
 refine⟨_,a,?_⟩
 grind
theorem nod1_6{N:Int}{s:GSignature}(hN:Bd ⟨6,N⟩):DA ⟨6,N⟩ [] s:=by
 have w:=fX (n:=N) (k:=16) (by omega) hN;have hu:=nc (op:=6) (by omega);have f:ij 6=true:=rfl;unfold DA td La pq;simp only[w,hu,f,tE];by_cases c:0<=N
 .have hd:0<=cab N 16:=Aae c (by omega);by_cases d:cab N 16<(s.Enums.length:Int)
  .rw[cD ⟨xae,[]⟩ hd d];have hv:va ⟨6,cab N 16⟩ s.Enums=true:=by grind[va]
   generalize (s.Enums[(cab N 16).toNat]?).getD ⟨xae,[]⟩=m;have a:¬N<0:=by omega
   have b:¬(s.Enums.length:Int)<=cab N 16:=by omega
   by_cases h2:Bab N 16<(m.Members.length:Int)
   .have e:¬(m.Members.length:Int)<=Bab N 16:=by omega
    simp[c,d,h2,hv,a,b,e,BC,-Prod.exists]
   .have e:(m.Members.length:Int)<=Bab N 16:=by omega
    simp[c,d,h2,hv,a,b,e,BC,-Prod.exists]
  .have a:¬N<0:=by omega
   have b:(s.Enums.length:Int)<=cab N 16:=by omega
   simp[c,d,a,b,BC,-Prod.exists]
 simp_all
theorem nod1_7{N:Int}{s:GSignature}:DA ⟨7,N⟩ [] s:=by
 have hu:=nc (op:=7) (by omega);have a:ij 7=true:=rfl;unfold DA td La Yd;simp only[hu,a,Zb,tE];by_cases b:0<=N
 .have d:¬N<0:=by omega
  by_cases c:N<(s.Inputs.length:Int)
  .rw[cD ⟨0,0⟩ b c];generalize (s.Inputs[N.toNat]?).getD ⟨0,0⟩=t;obtain⟨g,f⟩:=t;have e:¬(s.Inputs.length:Int)<=N:=by omega
   cases hv:va ⟨g,f⟩ s.Enums<;>simp[b,c,hv,d,e,BC,-Prod.exists]
  simp_all
 simp_all
theorem nod1_8{N:Int}{s:GSignature}:DA ⟨8,N⟩ [] s:=by
 have hu:=nc (op:=8) (by omega);have a:ij 8=true:=rfl;unfold DA td La Yd;simp only[hu,a,Zb,tE];by_cases b:0<=N
 .have d:¬N<0:=by omega
  by_cases c:N<(s.Defs.length:Int)
  .rw[cD ⟨0,0⟩ b c];generalize (s.Defs[N.toNat]?).getD ⟨0,0⟩=t;obtain⟨g,f⟩:=t;have e:¬(s.Defs.length:Int)<=N:=by omega
   cases hv:va ⟨g,f⟩ s.Enums<;>simp[b,c,hv,d,e,BC,-Prod.exists]
  simp_all
 simp_all
theorem nod1_9{N:Int}{s:GSignature}:DA ⟨9,N⟩ [] s:=by
 have hu:=nc (op:=9) (by omega);have a:ij 9=false:=rfl;unfold DA td La;simp only[hu,a,xO];cases N==0<;>simp[vt_5,BC,-Prod.exists]
theorem ZZ{N:Int}{s:GSignature}:DA ⟨35,N⟩ [] s:=by
 have hu:=nc (op:=35) (by omega);have a:ij 35=false:=rfl;unfold DA td La di;simp only[hu,a,xO];cases hm:s.HasMembers<;>cases N==0<;>simp[QN,BC,-Prod.exists]
theorem vV{op N:Int}{s:GSignature}(h:36<=op/\op<=39):DA ⟨op,N⟩ [] s:=by
 have hu:=nc (op:=op) (by omega);have g:ij op=true:=by grind[ij]
 unfold DA td La di Yd;simp only[hu,g,Zb,Un,tE];cases d:s.HasMembers
 .rcases(by omega:op=36\/op=37\/op=38\/op=39)with h|h|h|h<;>subst h<;>simp[d,BC,-Prod.exists]
 .by_cases c:0<=N
  .have b:¬N<0:=by omega
   by_cases f:N<(s.MemberDefs.length:Int)
   .rw[cD ⟨0,0⟩ c f];generalize (s.MemberDefs[N.toNat]?).getD ⟨0,0⟩=t;obtain⟨a,k⟩:=t;have e:¬(s.MemberDefs.length:Int)<=N:=by omega
    cases hv:va ⟨a,k⟩ s.Enums
    .rcases(by omega:op=36\/op=37\/op=38\/op=39)with h|h|h|h<;>subst h<;>simp[d,c,f,hv,b,e,BC,-Prod.exists]
    .rcases(by omega:op=36\/op=37\/op=38\/op=39)with h|h|h|h<;>subst h<;>simp only[d,c,f,hv,b,e,naa,if_true,if_false,not_true_eq_false,not_false_eq_true,decide_false,decide_true,Eaa,tab,vaa,beq_self_eq_true,Baa]
     .by_cases j:a=2<;>by_cases k3:a=3<;>simp[j,k3,hv,BC,-Prod.exists]<;>simp_all
     .by_cases i:a=1<;>simp[i,hv,BC,-Prod.exists]<;>simp_all
     .by_cases i:a=1<;>simp[i,hv,BC,-Prod.exists]<;>simp_all
     .cases DG a<;>by_cases k5:a=5<;>simp[k5,hv,BC,-Prod.exists]<;>simp_all
   .have e:(s.MemberDefs.length:Int)<=N:=by omega
    rcases(by omega:op=36\/op=37\/op=38\/op=39)with h|h|h|h<;>subst h<;>simp[d,c,f,b,e,BC,-Prod.exists]
  .have b:N<0:=by omega
   rcases(by omega:op=36\/op=37\/op=38\/op=39)with h|h|h|h<;>subst h<;>simp[d,c,b,BC,-Prod.exists]
theorem wV{op N:Int}{s:GSignature}{a:GType}(d:op=10\/op=25\/op=31\/op=32) (ha:va a s.Enums=true):DA ⟨op,N⟩ [a] s:=by
 have hu:=nc (op:=op) (by omega);have e:ij op=false:=by grind[ij]
 unfold DA td La Fb;simp only[hu,e,xO,Un];obtain⟨c,ae⟩:=a;rcases d with h|h|h|h<;>subst h<;>cases N==0
 .simp
 .cases hn:DG c<;>simp[Dl,hn,ha,BC,-Prod.exists]
 .simp
 .by_cases b:c=1
  .subst b;have:=gJ ha (by simp)
   simp_all[Dl]
  simp_all[Dl]
 .simp
 .by_cases b:c=5<;>simp[Dl,b,QN,BC,-Prod.exists]
 .simp
 .by_cases b:c=5<;>simp[Dl,b,QN,BC,-Prod.exists]
theorem XZ{N:Int}{s:GSignature}{a:GType}(ha:va a s.Enums=true):DA ⟨33,N⟩ [a] s:=by
 have hu:=nc (op:=33) (by omega);have f:ij 33=true:=rfl;unfold DA td La ym;simp only[hu,f,Zb,tE];by_cases c:0<=N
 .have b:¬N<0:=by omega
  by_cases d:N<(s.Tables.length:Int)
  .obtain⟨t,ht⟩:∃t,idx s.Tables N=some t:=⟨_,pn c d⟩;have e:¬(s.Tables.length:Int)<=N:=by omega
   cases hk:va t.Key s.Enums
   .simp[Dl,ht,c,d,b,e,hk,BC,-Prod.exists]
   .cases hv:va t.Value s.Enums
    .simp[Dl,ht,c,d,b,e,hk,hv,BC,-Prod.exists]
    .by_cases g:a.Kind=t.Key.Kind<;>by_cases h:a.Enum=t.Key.Enum<;>simp[Dl,ht,c,d,b,e,hk,hv,g,h,BC,-Prod.exists]
  simp_all[Dl]
 .have b:N<0:=by omega
  have e3:¬N<(s.Tables.length:Int)\/N<(s.Tables.length:Int):=by omega
  simp[Dl,c,b,BC,-Prod.exists]
theorem YZ{N:Int}{s:GSignature}{a:GType}(hN:Bd ⟨34,N⟩) (ha:va a s.Enums=true):DA ⟨34,N⟩ [a] s:=by
 have hu:=nc (op:=34) (by omega);have j:ij 34=true:=rfl;have w:=fX (n:=N) (k:=8) (by omega) hN;unfold DA td La ym Fj;simp only[hu,j,Zb,tE,w];by_cases g:0<=N
 .have v:¬N<0:=by omega
  have hd:0<=cab N 8:=Aae g (by omega);have d:0<=Bab N 8:=Int.tmod_nonneg _ g;have y:¬cab N 8<0:=by omega
  by_cases z:Bab N 8<=5
  .by_cases u:cab N 8<(s.Tables.length:Int)
   .obtain⟨t,ht⟩:∃t,idx s.Tables (cab N 8)=some t:=⟨_,pn hd u⟩;have x:¬(s.Tables.length:Int)<=cab N 8:=by omega
    obtain⟨_,⟨o,m⟩,⟨q,p⟩,_⟩:=t;obtain⟨f,r⟩:=a;simp only[Dl,ht,g,u,v,x,y,d,z,naa,if_true,if_false,not_true_eq_false,not_false_eq_true,decide_false,decide_true,Eaa,tab,vaa,beq_self_eq_true,Baa,Uac,Xac];by_cases h:o=3
    .subst h;by_cases i:m=0
     .subst i;rw[show va ⟨3,0⟩ s.Enums=true from Y4];by_cases e:q=4
      .subst e;by_cases l:p=0
       .subst l;rw[show va ⟨4,0⟩ s.Enums=true from vt_4];by_cases b:f=3
        .subst b;have:=gJ ha (by simp)
         simp_all
        simp_all
       simp_all[va]
      .cases va ⟨q,p⟩ s.Enums<;>by_cases b:f=3<;>by_cases c:r=0<;>simp[b,c,e,BC,-Prod.exists]
     simp_all[va]
    .cases va ⟨o,m⟩ s.Enums<;>cases va ⟨q,p⟩ s.Enums<;>by_cases b:f=3<;>by_cases hak:f=o<;>by_cases c:r=m<;>simp_all[BC,-Prod.exists]
   simp_all[Dl]
  simp_all[Dl]
 simp_all[Dl]
theorem WZ{N:Int}{s:GSignature}{a b c:GType}(hb:va b s.Enums=true):DA ⟨26,N⟩ [a,b,c] s:=by
 have hu:=nc (op:=26) (by omega);have d:ij 26=false:=rfl;unfold DA td La Fb;simp only[hu,d,xO];obtain⟨bk,be⟩:=b;cases N==0
 .simp
 .by_cases e:a.Kind=1<;>by_cases f:bk=c.Kind<;>by_cases k3:be=c.Enum<;>simp[Dl,PM,sZ,e,f,k3,BC,-Prod.exists]
  simp_all
theorem S4{op N:Int}{s:GSignature}{a b:GType}(hop:(11<=op/\op<=24)\/(27<=op/\op<=30)) {ok:Bool}{t':GType}(d:Fb op [a,b]=some (t',ok)) (ht:ok=true->va t' s.Enums=true) :
 DA ⟨op,N⟩ [a,b] s:=by
 have hu:=nc (op:=op) (by omega);have hr:(14<=op/\op<=16)/\La ⟨op,N⟩ [a,b] s=(if(decide (0<=N)&&decide (N<=5))=true then(Fb op [a,b]).bind λx=>if x.2=false then some (⟨0,0⟩,8)else some (x.1,0)else some (⟨0,0⟩,3))\/
  ¬(14<=op/\op<=16)/\La ⟨op,N⟩ [a,b] s=((Fb op [a,b]).bind λx=>if x.2=false then some (⟨0,0⟩,8)else some (x.1,0)):=by
  clear d ht hu;by_cases h:14<=op/\op<=16
  .refine .inl ⟨h,?_⟩
   .unfold La Fj;simp only[jN];rcases(by omega:op=14\/op=15\/op=16)with h|h|h<;>subst h<;>by_cases g1:0<=N<;>by_cases g2:N<=5<;>simp[g1,g2]
  .refine .inr ⟨h,?_⟩
   .unfold La;rcases(by omega:op=11\/op=12\/op=13\/op=17\/op=18\/op=19\/op=20\/op=21\/op=22\/op=23\/op=24\/op=27\/op=28\/op=29\/op=30)with h|h|h|h|h|h|h|h|h|h|h|h|h|h|h<;>subst h<;>simp
 have fin:∀(e:ij op=true\/N=0),La ⟨op,N⟩ [a,b] s=((Fb op [a,b]).bind λx=>if x.2=false then some (⟨0,0⟩,8)else some (x.1,0))->DA ⟨op,N⟩ [a,b] s:=by
  intro e h2;unfold DA;rw[imp2 hu h2 d e]
  grind
 rcases hr with⟨h,h2⟩|⟨h,h2⟩
 .have c:ij op=true:=by grind[ij]
  by_cases hN:(decide (0<=N)&&decide (N<=5))=true
  .simp_all
  .rw[Bool.not_eq_true]at hN;rw[hN,if_neg (by simp)]at h2;unfold DA td
   simp_all
 .have c:ij op=false:=by grind[ij]
  by_cases hN:N=0
  .simp_all
  .unfold DA td
   simp_all
theorem xV{op N:Int}{s:GSignature}{a b:GType}(hop:(11<=op/\op<=24)\/(27<=op/\op<=30)) (ha:va a s.Enums=true):DA ⟨op,N⟩ [a,b] s:=by
 have i:∀k,1<=k->k<=5->a.Kind=k->a.Enum=0:=λk g h2 h=>gJ ha (by omega);obtain⟨d,f⟩:=a;obtain⟨bk,be⟩:=b;simp only at i;have hr:∃t' ok,Fb op [⟨d,f⟩,⟨bk,be⟩]=some (t',ok)/\(ok=true->va t' s.Enums=true):=by
  unfold Fb nn;simp only[Dl,PM,Un];rcases(by omega:op=11\/op=12\/op=13\/op=14\/op=15\/op=16\/op=17\/op=18\/op=19\/op=20\/op=21\/op=22\/op=23\/op=24\/op=27\/op=28\/op=29\/op=30)with h|h|h|h|h|h|h|h|h|h|h|h|h|h|h|h|h|h<;>subst h
  .by_cases c:d=bk/\f=be
   .cases hn:DG d<;>simp[c,hn,ha]
    all_goals grind
   .simp[c]
  .by_cases c:d=bk/\f=be
   .cases hn:DG d<;>simp[c,hn,ha]
    all_goals grind
   .simp[c]
  .by_cases c:bk=2<;>by_cases e:d=2<;>by_cases k3:d=3<;>simp[c,e,k3,QN,Y4]
  .by_cases c:bk=4<;>by_cases e:d=3<;>by_cases k3:d=4<;>simp[c,e,k3,vt_4,Y4]
  .by_cases c:bk=2<;>by_cases e:d=2<;>by_cases k3:d=3<;>by_cases k4:bk=3<;>simp[c,e,k3,k4,QN,Y4,vt_4]
   all_goals simp_all
  .by_cases c:d=3<;>by_cases e:bk=3<;>simp[c,e]
   simp_all
  .by_cases c:d=bk/\f=be
   .cases hn:DG d<;>by_cases k5:d=5<;>simp[c,hn,k5,ha]
    all_goals grind
   .simp[c]
  .by_cases c:d=bk/\f=be
   .cases hn:DG d<;>by_cases k5:d=5<;>simp[c,hn,k5,ha]
    all_goals grind
   .simp[c]
  .by_cases c:d=bk<;>by_cases e:f=be<;>simp[c,e,dS]
  .by_cases c:d=bk<;>by_cases e:f=be<;>simp[c,e,dS]
  .by_cases c:d=bk/\f=be
   .cases hn:DG d<;>by_cases k5:d=5<;>simp[c,hn,k5,dS]
    all_goals grind[dS]
   .simp[c]
  .by_cases c:d=bk/\f=be
   .cases hn:DG d<;>by_cases k5:d=5<;>simp[c,hn,k5,dS]
    all_goals grind[dS]
   .simp[c]
  .by_cases c:d=1<;>by_cases e:bk=1<;>simp[c,e]
   grind
  .by_cases c:d=1<;>by_cases e:bk=1<;>simp[c,e]
   grind
  .by_cases c:d=5<;>by_cases e:bk=2<;>simp[c,e]
   simp_all
  .by_cases c:d=5<;>by_cases e:bk=2<;>simp[c,e]
   simp_all
  .by_cases c:d=5<;>by_cases e:bk=5<;>simp[c,e,QN]
  .by_cases c:d=5<;>by_cases e:bk=5<;>simp[c,e,QN]
 obtain⟨t',ok,g,h3⟩:=hr
 grind[S4]
theorem WO{n:GNode}{ops:List GType}{s:GSignature}(e:1<=n.Op/\n.Op<=39) (hN:Bd n) (d:(ops.length:Int)=He n.Op) (hv:∀t∈ops,va t s.Enums=true):DA n ops s:=by
 obtain⟨op,N⟩:=n;simp only at e d;unfold He at d;by_cases f:(1<=op/\op<=9)\/(35<=op/\op<=39)
 .rw[if_pos f]at d;obtain rfl:ops=[]:=List.eq_nil_of_length_eq_zero (by omega);rcases(by omega:(1<=op/\op<=5)\/op=6\/op=7\/op=8\/op=9\/op=35\/(36<=op/\op<=39))with h|h|h|h|h|h|h
  .exact uV h rfl
  all_goals grind[nod1_6,nod1_7,nod1_8,nod1_9,ZZ,vV]
 rw[if_neg f]at d;by_cases g:op=10\/op=25\/(31<=op/\op<=34)
 .rw[if_pos g]at d;obtain⟨a,rfl⟩:∃a,ops=[a]:=by
   match ops,d with
   |[a],_=>simp
  have ha:=hv a (by simp);rcases(by omega:(op=10\/op=25\/op=31\/op=32)\/op=33\/op=34)with h|h|h
  all_goals grind[wV,XZ,YZ]
 rw[if_neg g]at d;by_cases h2:op=26
 .rw[if_pos h2]at d;obtain⟨a,b,c,rfl⟩:∃a b c,ops=[a,b,c]:=by
   match ops,d with
   |[a,b,c],_=>simp
  grind[WZ]
 rw[if_neg h2,if_pos (by omega)]at d;obtain⟨a,b,rfl⟩:∃a b,ops=[a,b]:=by
  match ops,d with
  |[a,b],_=>simp
 grind[xV]
def Tl(e:List GNode) (i:Nat):Nat:=(He (Mg e i).Op).toNat
noncomputable def rF(e:List GNode) (s:GSignature) (st:List GType) (i:Nat):GType×Int:=(td (Mg e i) (st.drop (st.length-Tl e i)) s).getD (⟨0,0⟩,0)
noncomputable def py(e:List GNode) (s:GSignature):Nat->List GType
 |0=>[]
 |i+1=>(py e s i).take ((py e s i).length-Tl e i)++[(rF e s (py e s i) i).1]
noncomputable def MF(e:List GNode) (s:GSignature) (i:Nat):Option (GType×Int×Int):=
 if(rF e s (py e s i) i).2=0 then none else some (⟨0,0⟩,(i:Int),(rF e s (py e s i) i).2)
noncomputable def Pv(e:List GNode) (s:GSignature):GType×Int×Int:=
 if(tp e).2.2=0 then(match ff (MF e s) e.length with|some v=>v|none=>((py e s e.length)[0]?.getD ⟨0,0⟩,0,0))else(⟨0,0⟩,(tp e).2.1,(tp e).2.2)
structure Wst (e:List GNode):Prop where
 pos:0<e.length
 le:e.length<=48
 err:∀i,i<e.length->Gz e i=none
 one:(Wj e e.length).2.length<=1
theorem iJ{e:List GNode}(h:(tp e).2.2=0):Wst e:=by
 unfold tp at h;split at h
 .grind
 split at h
 .grind
 rename_i h48 h0;split at h
 .grind[Gz,Ob]
 .rename_i hn;split at h
  .grind
  .exact⟨by omega,by omega,Jb.1 hn,by omega⟩
theorem Wst.ar{e:List GNode}(h:Wst e) {i:Nat}(hi:i<e.length):0<=He (Mg e i).Op/\Tl e i<=(Wj e i).2.length/\(1<=(Mg e i).Op/\(Mg e i).Op<=39):=by
 have:=h.err i hi
 grind[Gz,Tl,MA]
theorem jL{e:List GNode}{i:Nat}:(Wj e (i+1)).2.length=(Wj e i).2.length-Tl e i+1:=by
 simp[Wj,Tl]
theorem ndOk{e:List GNode}(hN:∀n∈e,Bd n) {i:Nat}(hi:i<e.length):Bd (Mg e i):=by
 rw[←Ht hi];simp_all
theorem uD{e:List GNode}{s:GSignature}(h:Wst e) (hN:∀n∈e,Bd n):∀i,i<=e.length->(∀j,j<i->MF e s j=none)->(py e s i).length=(Wj e i).2.length/\∀t∈py e s i,va t s.Enums=true
 |0,_,_=>by simp[py,Wj]
 |i+1,hi,ht=>by
  obtain⟨h1,h2⟩:=uD h hN i (by omega) λj hj=>ht j (by omega);obtain⟨a1,a2,a⟩:=h.ar (i:=i) (by omega);refine⟨by grind[py,jL],?_⟩;intro t hm;simp only[py,List.mem_append,uab]at hm;rcases hm with hm|rfl
  .grind
  .obtain⟨r,hr,hv⟩:=WO (n:=Mg e i) (ops:=(py e s i).drop ((py e s i).length-Tl e i)) (s:=s) a (ndOk hN (by omega)) (by grind[Tl]) (λt ht=>h2 t (wad ht));have hz:=ht i (by omega)
   grind[MF,rF]
theorem HK{e:List GNode}{s:GSignature}(h:Wst e) (hN:∀n∈e,Bd n) {i:Nat}(hi:i<e.length) (ht:∀j,j<i->MF e s j=none) :
 td (Mg e i) ((py e s i).drop ((py e s i).length-Tl e i)) s=some (rF e s (py e s i) i):=by
 obtain⟨h1,h2⟩:=uD h hN i (by omega) ht;obtain⟨a1,a2,a⟩:=h.ar hi;obtain⟨r,hr,hv⟩:=WO (n:=Mg e i) (ops:=(py e s i).drop ((py e s i).length-Tl e i)) (s:=s) a (ndOk hN hi) (by grind[Tl]) (λt ht=>h2 t (wad ht))
 grind[rF]
theorem vG{e:List GNode}(hN:∀n∈e,Bd n) (s:GSignature):Mq e s=some (Pv e s):=by
 unfold Mq Pv;rw[Tp,naa];by_cases f:(tp e).2.2=0
 .rw[if_neg (by omega),if_pos f];have hw:=iJ f;have hl:ja (vm e s) (([]:List GType),0)=some (Ki (py e s e.length) (ff (MF e s) e.length)):=by
   refine Th (λi=>(py e s i,(i:Int))) (MF e s) e.length _ (λi hi ht=>?_) (λ_=>?_)
   .have a:=HK hw hN hi ht;obtain⟨g,h2⟩:=uD hw hN i (by omega) ht;obtain⟨a1,a2,h⟩:=hw.ar hi;have hle:=hw.le;have h12:=Ix (e:=e) (i:=i) λj hj=>hw.err j (by omega);unfold vm MF;simp only;have b:ca .i64 (((py e s i).length:Int)-He (Mg e i).Op)=(((py e s i).length-Tl e i:Nat):Int):=by
     grind[Tl,wid]
    rw[if_pos (by omega),Pa hi,naa,Ht hi];unfold td at a;rw[nc h]at a⊢;have hj:(if¬(Mg e i).N=0 then(some (ij (Mg e i).Op)).bind λl=>some (!l)else some false)=some (!(Mg e i).N==0&&!ij (Mg e i).Op):=by
     grind
    rw[hj]at a⊢;rw[naa]at a⊢;generalize (!(Mg e i).N==0&&!ij (Mg e i).Op)=c at a⊢;cases c
    .rw[if_neg (by simp)]at a⊢;rw[mn,naa,b,OW (by omega),naa,a,naa];by_cases d:(rF e s (py e s i) i).2=0
     .rw[if_neg (by omega),if_pos d,Nv (by omega),naa,kj (by grind),naa,Ha (by omega)];rfl
     .rw[if_pos d,if_neg d];rfl
    .rw[if_pos rfl]at a⊢;injection a with a;rw[←a,if_neg (by decide)];rfl
   grind[vm]
  rw[hl]
  cases hf:ff (MF e s) e.length with
  |some v=>rfl
  |none=>
   obtain⟨g,h2⟩:=uD (s:=s) hw hN e.length (by omega) (Jb.1 hf);have:0<(py e s e.length).length:=by
    rw[g];obtain⟨k,hk⟩:∃k,e.length=k+1:=⟨e.length-1,by have:=hw.pos;omega⟩
    grind[jL]
   simp only[Ki,naa];rw[show(0:Int)=((0:Nat):Int)from rfl,Pa this,naa,qaa this];rfl
 simp_all
end Go.Proofs.Dev
namespace Go.Tm
theorem Lw{x n:Int}:∀{l:List Int},x∈yv l n↔x∈l\/x=n
 |[]=>by simp[yv]
 |y::l=>by
  simp only[yv];split
  .grind
  .simp only[oab,Lw (l:=l)];grind
abbrev IL(l:List Int):Prop:=l.Pairwise (·<·)
theorem AE{n:Int}:∀{l:List Int},IL l->IL (yv l n)
 |[],_=>by simp[yv]
 |y::l,h=>by
  have b:=Vab.1 h;simp only[yv];split
  .split
   .refine Vab.2 ⟨λz a=>?_,h⟩
    grind
   omega
  .refine Vab.2 ⟨λz a=>?_,AE b.2⟩;rcases Lw.1 a with a|rfl
   all_goals simp_all
theorem uK{n:Int}:∀{l:List Int},(yv l n).length<=l.length+1
 |[]=>by simp[yv]
 |y::l=>by
  simp only[yv];split
  .grind
  .have:=uK (n:=n) (l:=l);simp_all
theorem JE{α A β ρ:Type}{step:A×Int->Option (Ex (A×Int) β ρ)}(xs:List α) (f:A->α->A) (a:A) (b:β) {x0:A×Int}(hx:x0=(a,0))
 (hgo:∀(i:Nat) (hi:i<xs.length),step ((xs.take i).foldl f a,(i:Int))=some (.go (f ((xs.take i).foldl f a) xs[i],((i+1:Nat):Int)))) (hend:step (xs.foldl f a,(xs.length:Int))=some (.brk b)) :
 ja step x0=some (.inl b):=by
 refine Yg (λi=>((xs.take i).foldl f a,(i:Int))) xs.length b (λi hi=>?_) ?_ (by simp_all)
 all_goals grind[Uaa]
end Go.Tm
namespace Go.Proofs.Dev
open Go Go.Tm
end Go.Proofs.Dev
namespace Go.Tm
theorem dh(l:List Int):IL (Ig l)/\(Ig l).length<=l.length/\∀x,x∈Ig l↔x∈l:=by
 have key:∀(l a:List Int),IL a->IL (l.foldl yv a)/\(l.foldl yv a).length<=a.length+l.length/\∀x,x∈l.foldl yv a↔x∈a\/x∈l:=by
  intro l
  induction l with
  |nil=>simp
  |cons y l d=>
   intro a h;obtain⟨b,h2,c⟩:=d (yv a y) (AE h);have:=uK (n:=y) (l:=a);refine⟨b,by grind,λx=>?_⟩
   simp_all[gab,Lw,oab,or_assoc]
 obtain⟨b,h2,c⟩:=key l [] (by simp)
 grind[Ig]
theorem fD{lo hi:Int}:∀{a:List Int},IL a->(∀x∈a,lo<=x/\x<hi)->a.length<=(hi-lo).toNat
 |[],_,_=>by simp
 |x::a,h,hb=>by
  have b:=Vab.1 h;have hx:=hb x (by simp);have:=fD (lo:=x+1) (hi:=hi) b.2 λy hy=>⟨by grind,(hb y (by grind)).2⟩
  grind
theorem dD:∀{a b:List Int},IL a->IL b->(∀x,x∈a↔x∈b)->a=b
 |[],[],_,_,_=>rfl
 |[],y::b,_,_,h=>by have:=(h y).2 (by simp);simp_all
 |x::a,[],_,_,h=>by have:=(h x).1 (by simp);simp_all
 |x::a,y::b,ha,hb,h=>by
  have c:=Vab.1 ha;have d:=Vab.1 hb;have e:x=y:=by
   have h1:=(h x).1 (by simp);have h2:=(h y).2 (by simp)
   grind
  subst e;rw[dD c.2 d.2 λz=>?_]
  grind
end Go.Tm
namespace Go.Proofs.Dev
open Go Go.Tm
def EA(p:GNode->Bool) (e:List GNode):List Int:=Ig ((e.filter p).map (·.N))
theorem ox{p:GNode->Bool}{e:List GNode}:(EA p e).length<=e.length:=by
 grind[EA,dh,eab]
def eR(n:GNode):Bool:=n.Op==7
def Zj(n:GNode):Bool:=n.Op==8
def Gu(n:GNode):Bool:=n.Op==36 || n.Op==37 || n.Op==38 || n.Op==39
def pC(e:List GNode):List Int×List Int×List Int:=(EA eR e,EA Zj e,EA Gu e)
theorem dD:∀{a b:List Int},IL a->IL b->(∀x,x∈a↔x∈b)->a=b
 |[],[],_,_,_=>rfl
 |[],y::b,_,_,h=>by have:=(h y).2 (by simp);simp_all
 |x::a,[],_,_,h=>by have:=(h x).1 (by simp);simp_all
 |x::a,y::b,ha,hb,h=>by
  obtain⟨ha1,c⟩:=Vab.1 ha;obtain⟨hb1,d⟩:=Vab.1 hb;have e:x=y:=by
   have h1:=(h x).1 (by simp);have h2:=(h y).2 (by simp)
   grind
  subst e;rw[dD c d λz=>?_]
  grind
theorem sy{d:Array Int}(k:∀i j,i<j->j<d.size->d[i]!<=d[j]!):∀m,m<=d.size->IL (Go.Lib.compactUpTo d m)/\∀x,x∈Go.Lib.compactUpTo d m↔∃i,i<m/\d[i]! = x
 |0,_=>⟨by simp[Go.Lib.compactUpTo,IL],by simp[Go.Lib.compactUpTo]⟩
 |m+1,hm=>by
  obtain⟨b,e⟩:=sy k m (by omega);have g:∀i,i<m->d[i]!<=d[m-1]!:=by
   intro i hi;by_cases h:i=m-1
   .simp_all
   .exact k i (m-1) (by omega) (by omega)
  rw[Go.Lib.compactUpTo_succ];by_cases hk:Go.Lib.keeps d m=true
  .rw[if_pos hk];refine⟨?_,λx=>?_⟩
   .unfold IL;rw[List.pairwise_append];refine⟨b,by simp,λa ha c hc=>?_⟩;obtain⟨i,hi,rfl⟩:=(e a).1 ha;obtain rfl:=uab.1 hc;have hne:d[m]!≠d[m-1]!:=by
     have:=of_decide_eq_true hk;omega
    have h1:=g i hi;have h2:=k (m-1) m (by omega) (by omega);omega
   grind
  .rw[if_neg hk,List.append_nil];refine⟨b,λx=>?_⟩;rw[e];have f:Go.Lib.keeps d m=false:=by simp_all
   have hmm:¬(m=0\/d[m]!≠d[m-1]!):=of_decide_eq_false f
   grind
theorem Tt(l:List Int):Go.Lib.compact (l.mergeSort λx y=>decide (x<=y))=Ig l:=by
 have hp:=List.pairwise_mergeSort (le:=λ(x y:Int)=>decide (x<=y)) (λa b c e h2=>by grind) (λa b=>by grind) l;have hm:∀x,x∈(l.mergeSort λx y=>decide (x<=y))↔x∈l:=λx=>List.mem_mergeSort;generalize (l.mergeSort λx y=>decide (x<=y))=q at *;obtain⟨e,h2⟩:=sy (d:=q.toArray) (λi j hij hj=>by
  grind[List.pairwise_iff_getElem]) q.length (by simp)
 obtain⟨g1,-,g2⟩:=dh l;refine dD e g1 λx=>?_;unfold Go.Lib.compact;rw[h2,g2,←hm x];constructor
 .grind
 .intro h;obtain⟨i,hi,rfl⟩:=List.mem_iff_getElem.1 h;exact⟨i,hi,by simp_all⟩
theorem mr{l:List Int}(h:l.length<=1099511627776):bj l=some (Ig l):=by
 unfold bj Ta Fa;rw[if_pos (by omega),naa,if_pos (by simp;omega),naa,Tt]
theorem uu{l:List Int}(h:l.length<=8796093022208):rh l=some (Ig l):=by
 simp_all[rh,Ta,Fa,if_pos,naa,Tt]
theorem Cw{p:GNode->Bool}{l:List GNode}{x:GNode}:((l++[x]).filter p).map (·.N)=if p x=true then(l.filter p).map (·.N)++[x.N]else(l.filter p).map (·.N):=by
 grind
theorem Ol{e:List GNode}(h:e.length<=1099511627776):ef e=some (pC e):=by
 unfold ef;have hb:∀(p:GNode->Bool) (i:Nat),(((e.take i).filter p).map (·.N)).length<=e.length:=λp i=>by
  grind
 have hl:ja (th e) (([]:List Int),([]:List Int),([]:List Int),0)=some (.inl ((e.filter eR).map (·.N),(e.filter Zj).map (·.N),(e.filter Gu).map (·.N))):=by
  refine Yg (λi=>(((e.take i).filter eR).map (·.N),((e.take i).filter Zj).map (·.N),((e.take i).filter Gu).map (·.N),(i:Int))) e.length _ (λi hi=>?_) ?_ rfl
  .have ht:e.take (i+1)=e.take i++[e[i]]:=by simp
   have b1:=hb eR i;have b2:=hb Zj i;have b3:=hb Gu i;unfold th;simp only;rw[if_pos (by omega),Pa hi,naa,Ha (by omega),ht,Cw,Cw,Cw]
   grind[eR,Zj,Gu,kj]
  simp_all[th,if_neg,List.take_length]
 have c:∀p:GNode->Bool,((e.filter p).map (·.N)).length<=1099511627776:=λp=>by
  grind
 rw[hl,naa];simp only;rw[mr (c eR),naa,mr (c Zj),naa,mr (c Gu),naa];rfl
def II(n:Int) (a:List Int) (x:Int):List Int:=if 0<=x/\x<n then yv a x else a
def cG(n:Int) (a:List Int):Prop:=IL a/\∀x∈a,0<=x/\x<n
theorem cG.len{n:Int}{a:List Int}(h:cG n a):a.length<=n.toNat:=by
 have:=fD (lo:=0) (hi:=n) h.1 h.2;omega
theorem cG.nil{n:Int}:cG n []:=⟨by simp,by simp⟩
theorem cG.ins{n:Int}{a:List Int}{x:Int}(h:cG n a):cG n (II n a x):=by
 unfold II;split
 .rename_i hx;refine⟨AE h.1,λy b=>?_⟩;rcases Lw.1 b with b|rfl
  .exact h.2 y b
  omega
 omega
theorem cG.fold{n:Int}:∀{l a:List Int},cG n a->cG n (l.foldl (II n) a)
 |[],a,h=>h
 |x::l,a,h=>cG.fold (l:=l) h.ins
theorem RE{n x:Int}:∀{l a:List Int},x∈l.foldl (II n) a↔x∈a\/(x∈l/\0<=x/\x<n)
 |[],a=>by simp
 |y::l,a=>by
  simp only[gab];rw[RE (l:=l)];unfold II;split
  .rename_i hy;rw[Lw,oab]
   grind
  grind
def lA(r:GRule):List Int:=EA Zj r.Guard++EA Zj r.Value
def sQ(n d:Int) (a:List Int) (r:GRule):List Int:=if r.Def=d then(lA r).foldl (II n) a else a
def mM(s:GScope) (d:Int):List Int:=if 0<=d/\d<(s.Defs.length:Int)then s.Rules.foldl (sQ s.Defs.length d) []else []
structure ScOk (s:GScope):Prop where
 defs:s.Defs.length<=1048576
 rules:s.Rules.length<=1048576
 g:∀r∈s.Rules,r.Guard.length<=1048576/\r.Value.length<=1048576
theorem YT{n d:Int}{a:List Int}{r:GRule}(h:cG n a):cG n (sQ n d a r):=by
 unfold sQ;split
 .exact h.fold
 omega
theorem PB{n d:Int}:∀{l:List GRule}{a:List Int},cG n a->cG n (l.foldl (sQ n d) a)
 |[],a,h=>h
 |r::l,a,h=>PB (l:=l) (YT h)
theorem IJ(s:GScope) (d:Int):cG s.Defs.length (mM s d):=by
 grind[mM,PB,cG.nil]
def vD(s:GScope) (d x:Int):Prop:=(0<=d/\d<(s.Defs.length:Int))/\(0<=x/\x<(s.Defs.length:Int))/\∃r∈s.Rules,r.Def=d/\x∈lA r
theorem aA{s:GScope}{d x:Int}:x∈mM s d↔vD s d x:=by
 have key:∀(l:List GRule) (a:List Int),x∈l.foldl (sQ s.Defs.length d) a↔x∈a\/(0<=x/\x<(s.Defs.length:Int))/\∃r∈l,r.Def=d/\x∈lA r:=by
  intro l
  induction l with
  |nil=>simp
  |cons r l b=>
   intro a;simp only[gab];rw[b];unfold sQ;split
   .rename_i hr;rw[RE]
    grind
   simp_all
 unfold mM vD
 simp_all
end Go.Proofs.Dev
namespace Go.Tm
theorem xy{α:Type} [DecidableEq α]:∀{a b:List α},a.Nodup->(∀x∈a,x∈b)->a.length<=b.length
 |[],b,_,_=>by simp
 |x::a,b,h,hs=>by
  obtain⟨h1,h2⟩:=Iab.1 h;have:=xy (a:=a) (b:=b.erase x) h2 λy hy=>by
   grind
  grind
theorem kH{a:List Int}(h:IL a):a.Nodup:=h.imp λh he=>by omega
end Go.Tm
namespace Go.Proofs.Dev
open Go Go.Tm
inductive Way (s:GScope):Int->Int->Prop
 |one {a b:Int} (h:vD s a b):Way s a b
 |step {a b c:Int} (h:Way s a b) (h2:vD s b c):Way s a c
def trF(s:GScope) (a:List Int) (x:Int):List Int:=(mM s x).foldl yv a
def trR(s:GScope) (a:List Int):List Int:=a.foldl (trF s) a
def DL(s:GScope) (d:Int):Nat->List Int
 |0=>mM s d
 |k+1=>trR s (DL s d k)
theorem mH{n:Int}:∀{l a:List Int},(∀x∈l,0<=x/\x<n)->l.foldl yv a=l.foldl (II n) a
 |[],a,_=>rfl
 |x::l,a,h=>by
  simp only[gab];rw[show II n a x=yv a x from if_pos (h x (by simp)),mH λy hy=>h y (by grind)]
theorem pX(s:GScope) (a:List Int) (x:Int):trF s a x=(mM s x).foldl (II s.Defs.length) a:=mH (IJ s x).2
theorem N4{s:GScope}{a:List Int}{x:Int}(h:cG s.Defs.length a):cG s.Defs.length (trF s a x):=by rw[pX];exact h.fold
theorem O4{s:GScope}{a:List Int}{x y:Int}:y∈trF s a x↔y∈a\/vD s x y:=by
 rw[pX,RE];constructor
 .grind[aA]
 .rintro(h|h)
  .simp_all
  .exact .inr ⟨aA.2 h,h.2.1⟩
theorem OF{s:GScope}:∀{l a:List Int},cG s.Defs.length a->cG s.Defs.length (l.foldl (trF s) a)
 |[],a,h=>h
 |x::l,a,h=>OF (l:=l) (N4 h)
theorem Ws{s:GScope}{y:Int}:∀{l a:List Int},y∈l.foldl (trF s) a↔y∈a\/∃x∈l,vD s x y
 |[],a=>by simp
 |x::l,a=>by
  simp only[gab];rw[Ws (l:=l),O4]
  grind
theorem eJ(s:GScope) (d:Int):∀k,cG s.Defs.length (DL s d k)
 |0=>IJ s d
 |k+1=>OF (eJ s d k)
theorem EB{s:GScope}{d y:Int}:∀{k:Nat},y∈DL s d k->Way s d y
 |0,h=>.one (aA.1 h)
 |k+1,h=>by
  rcases Ws.1 h with h|⟨x,a,h2⟩
  .exact EB h
  .exact .step (EB a) h2
theorem PF{s:GScope}{d y:Int}{k:Nat}(h:y∈DL s d k):y∈DL s d (k+1):=Ws.2 (.inl h)
theorem EL{s:GScope}{d y:Int}(h:vD s d y):∀k,y∈DL s d k
 |0=>aA.2 h
 |k+1=>PF (EL h k)
def q7(s:GScope) (a:List Int):Prop:=∀x∈a,∀y,vD s x y->y∈a
open Classical in
theorem FL{s:GScope}{d:Int}:∀k,q7 s (DL s d k)\/k+1<=(DL s d k).length
 |0=>by
  cases h:DL s d 0 with
  |nil=>exact .inl λx hx=>by simp at hx
  |cons x l=>exact .inr (by simp)
 |k+1=>by
  by_cases hc:q7 s (DL s d k)
  .refine .inl λx hx y g=>?_;have c:x∈DL s d k:=by
    rcases Ws.1 hx with h|⟨z,n,h2⟩
    .exact h
    .exact hc z n x h2
   exact PF (hc x c y g)
  .rcases FL k with h|h
   .exact(hc h).elim
   .right;obtain⟨x,hx⟩:=Zad.1 hc;obtain⟨e,f⟩:=qae.1 hx;obtain⟨y,g⟩:=Zad.1 f;obtain⟨i,j⟩:=qae.1 g;have:=xy (a:=y::DL s d k) (b:=DL s d (k+1)) (Iab.2 ⟨j,kH (eJ s d k).1⟩) λz m=>by
     rcases oab.1 m with rfl|m
     .exact Ws.2 (.inr ⟨x,e,i⟩)
     .exact PF m
    simp only[List.length_cons]at this;omega
theorem qX(s:GScope) (d:Int):q7 s (DL s d s.Defs.length):=by
 rcases FL (s:=s) (d:=d) s.Defs.length with h|h
 .exact h
 .have:=(eJ s d s.Defs.length).len;omega
theorem oD{s:GScope}{d y:Int}:y∈DL s d s.Defs.length↔Way s d y:=by
 constructor
 .exact EB
 .intro h
  induction h with
  |one h=>grind[EL]
  |step h h2 a=>exact qX s d _ a _ h2
def FC(n:Int) (l:List Int):List Int:=l.filter λx=>decide (0<=x)&&decide (x<n)
theorem TG{n:Int}{l a:List Int}(h:a.length+l.length<=1099511627776) {step:List Int×Int->Option (Ex (List Int×Int) (List Int) Unit)}
 (hstep:∀(a:List Int) (i:Nat) (hi:i<l.length),step (a,(i:Int))=(oaa (α:=List Int) (if(decide (0<=l[i])&&decide (l[i]<n))=true then(app 8 a [l[i]]).bind λx=>some x else some a) λj=>some (.go (j,ca .i64 ((i:Int)+1)))))
 (hend:∀a,step (a,(l.length:Int))=some (.brk a)):ja step (a,0)=some (.inl (a++FC n l)):=by
 refine Yg (λi=>(a++FC n (l.take i),(i:Int))) l.length _ (λi hi=>?_) ?_ (by simp[FC])
 .have hlen:(FC n (l.take i)).length<=i:=by
   grind[FC]
  have ht:FC n (l.take (i+1))=FC n (l.take i)++(if(decide (0<=l[i])&&decide (l[i]<n))=true then [l[i]]else []):=by
   grind[FC,Uaa]
  grind[Ha,kj]
 simp_all
theorem Gq{r:GRule}(h:r.Guard.length<=1048576/\r.Value.length<=1048576) (n:Int):ie r n=some (FC n (EA Zj r.Guard)++FC n (EA Zj r.Value)):=by
 unfold ie;have l1:=ox (p:=Zj) (e:=r.Guard);have l2:=ox (p:=Zj) (e:=r.Value);have l3:(FC n (EA Zj r.Guard)).length<=(EA Zj r.Guard).length:=eab _ _;rw[Ol (by omega),naa,Ol (by omega),naa];have b:ja (tf n (pC r.Guard)) (([]:List Int),0)=some (.inl ([]++FC n (EA Zj r.Guard))):=by
  refine TG (l:=EA Zj r.Guard) (by grind) (λa i hi=>?_) (λa=>?_)
  .unfold tf pC;simp only;rw[if_pos (by omega),Pa hi,naa]
   grind
  grind[tf,pC]
 rw[b,naa];simp only[List.nil_append];have b2:ja (sf n (pC r.Value)) (FC n (EA Zj r.Guard),0)=some (.inl (FC n (EA Zj r.Guard)++FC n (EA Zj r.Value))):=by
  refine TG (l:=EA Zj r.Value) (by omega) (λa i hi=>?_) (λa=>?_)
  .unfold sf pC;simp only;rw[if_pos (by omega),Pa hi,naa]
   grind
  grind[sf,pC]
 simp_all
theorem mapM_some{α β:Type}{f:α->Option β}(g:α->β):∀{l:List α},(∀x∈l,f x=some (g x))->l.mapM f=some (l.map g)
 |[],_=>rfl
 |x::l,h=>by
  rw[List.mapM_cons,h x (by simp),mapM_some g λy hy=>h y (by grind)];rfl
def Jo(s:GScope):List (List Int):=
 (zaa s.Defs.length).map λ(d:Nat)=>Ig ((s.Rules.filter λ(r:GRule)=>r.Def==(d:Int)).map λr=>FC s.Defs.length (EA Zj r.Guard)++FC s.Defs.length (EA Zj r.Value)).flatten
theorem dn{s:GScope}(a:ScOk s):tc s=some (Jo s):=by
 unfold tc Jo;rw[if_pos ⟨a.defs,a.rules,a.g⟩];refine mapM_some _ λd _=>?_;rw[mapM_some (λr=>FC s.Defs.length (EA Zj r.Guard)++FC s.Defs.length (EA Zj r.Value)) λr hr=>Gq (a.g r (hac.1 hr).1) _];rfl
theorem Zz{s:GScope}{d:Int}{l:List Int}(h0:0<=d) (h:(Jo s)[d.toNat]?=some l) (x:Int):x∈l↔vD s d x:=by
 unfold Jo at h;rw[List.getElem?_map]at h;by_cases hd:d.toNat<s.Defs.length
 .rw[List.getElem?_range hd]at h;simp only[Option.map_some,aab]at h;subst h;rw[(dh _).2.2];simp only[List.mem_flatten,fab,hac,beq_iff_eq,vD,lA,FC]
  grind
 simp_all
theorem Cq(s:GScope):(Jo s).length=s.Defs.length:=by simp[Jo]
theorem ER{s:GScope}{a b:Int}(f:0<=a):ReachL (Jo s) a b↔Way s a b:=by
 constructor
 .intro h;have key:∀{b:Int},ReachL (Jo s) a b->Way s a b/\0<=b:=by
   intro b h
   induction h with
   |one h hb=>exact have:=(Zz f h _).1 hb;⟨.one this,this.2.1.1⟩
   |step h hl hc e=>exact have:=(Zz e.2 hl _).1 hc;⟨.step e.1 this,this.2.1.1⟩
  simp_all
 .intro h;have get:∀{d x:Int},vD s d x->∃l,(Jo s)[d.toNat]?=some l/\x∈l:=by
   intro d x hd;have c:d.toNat<(Jo s).length:=by rw[Cq];have:=hd.1;omega
   exact⟨_,qaa c,(Zz hd.1.1 (qaa c) x).2 hd⟩
  induction h with
  |one h=>obtain⟨l,g,h2⟩:=get h;exact .one g h2
  |step h h2 e=>obtain⟨l,i,j⟩:=get h2;exact .step e i j
theorem gI{l:List Int}(hl:l.length<=1099511627776) (d:Int):Fe l d=some (decide (d∈l)):=by
 have h:=Np (l:=l) (p:=λx=>some (decide (d=x))) (λx=>decide (d=x)) (λx _=>rfl) (by omega) (o:=ja (tg l d) 0) (by
  unfold tg;simp)
 have h':Fe l d=some (l.any λx=>decide (d=x)):=h
 grind
open Classical in
theorem Ml{s:GScope}(c:ScOk s) (d:Int):∃l,Tc s d=some l/\l.length<=1048576/\∀x,x∈l↔Way s d x:=by
 unfold Tc;by_cases hd:0<=d/\d<(s.Defs.length:Int)
 .have hn:=c.defs;refine⟨mF (Jo s) d,?_,?_,?_⟩
  .rw[if_pos (by omega),naa,if_neg (by simp;omega),dn c,naa];unfold wi;rw[if_pos]
   .rfl
   .refine⟨by rw[Cq];omega,λl hl=>?_,hd.1,by rw[Cq];exact hd.2⟩;obtain⟨i,hi,rfl⟩:=Aaa hl;have hm:=λx=>Zz (s:=s) (d:=(i:Int)) (l:=(Jo s)[i]) (by omega) (by rw[Int.toNat_natCast];exact qaa hi) x;have hb:∀x∈(Jo s)[i],0<=x/\x<((Jo s).length:Int):=λx hx=>by rw[Cq];exact((hm x).1 hx).2.1
    refine⟨?_,hb⟩;have a:IL (Jo s)[i]:=by simp only[Jo,List.getElem_map];exact(dh _).1
    have:=fD a hb;rw[Cq]at this;omega
  .have e:=eab (λb=>@decide (ReachL (Jo s) d b) (Classical.propDecidable _)) ((zaa (Jo s).length).map λ(k:Nat)=>(k:Int));unfold mF;simp only[List.length_map,List.length_range,Cq]at e⊢;omega
  .intro x;unfold mF;rw[hac,Cq,fab,decide_eq_true_eq,ER hd.1];constructor
   .exact λh=>h.2
   .intro h;refine⟨?_,h⟩;have:0<=x/\x<(s.Defs.length:Int):=by cases h with|one h=>exact h.2.1|step _ h=>exact h.2.1
    exact⟨x.toNat,by simp;omega,by omega⟩
 .refine⟨[],?_,by simp,λx=>?_⟩
  .have:(if¬d<0 then some (decide ((s.Defs.length:Int)<=d))else some true)=some true:=by
    by_cases h:d<0
    .rw[if_neg (by omega)]
    .rw[if_pos h,decide_eq_true (by omega)]
   rw[this];rfl
  .constructor
   .intro h;simp at h
   .intro h;exfalso;apply hd;clear hd
    induction h with
    |one h=>exact h.1
    |step h h2 f=>exact f
structure LawOk (l:GLaw):Prop where
 ne:l.Enums.length<=1048576
 nt:l.Tables.length<=1048576
 ns:l.Scopes.length<=1048576
 e:∀x∈l.Enums,x.Name.size<=1048576/\∀m∈x.Members,m.size<=1048576
 t:∀x∈l.Tables,x.Name.size<=1048576
 s:∀x∈l.Scopes,x.Name.size<=1048576/\ScOk x/\x.Inputs.length<=1048576/\(∀f∈x.Inputs,f.Name.size<=1048576)/\(∀f∈x.Defs,f.Name.size<=1048576)/\
  (∀r∈x.Rules,r.Name.size<=1048576/\r.Source.size<=1048576/\(∀n∈r.Guard,Bd n)/\∀n∈r.Value,Bd n)
theorem bB{l:List GEnum}(hl:l.length<=1048576) (nm:ByteArray):gk l nm=some (l.any λx=>decide (x.Name=nm)):=by
 have h:=Np (l:=l) (p:=λx=>cg x nm) (λx=>decide (x.Name=nm)) (λx _=>rfl) (by omega) (o:=ja (bd l (λx=>cg x nm)) 0) rfl;have h':eb l (λx=>cg x nm)=some (l.any λx=>decide (x.Name=nm)):=h
 grind[gk]
theorem zE{l:List GTable}(hl:l.length<=1048576) (nm:ByteArray):Jk l nm=some (l.any λx=>decide (x.Name=nm)):=by
 have h:=Np (l:=l) (p:=λx=>kf x nm) (λx=>decide (x.Name=nm)) (λx _=>rfl) (by omega) (o:=ja (Jc l (λx=>kf x nm)) 0) rfl;have h':Za l (λx=>kf x nm)=some (l.any λx=>decide (x.Name=nm)):=h
 grind[Jk]
theorem OM{l:List GScope}(hl:l.length<=1048576) (y:GScope):Ya l (λx=>Hd x y)=some (l.any λx=>decide (x.Name=y.Name)):=
 Np (l:=l) (p:=λx=>Hd x y) (λx=>decide (x.Name=y.Name)) (λx _=>rfl) (by omega) (o:=ja (Ic l (λx=>Hd x y)) 0) rfl
theorem yE{l:List GField}(hl:l.length<=1048576) (y:GField):Ja l (λx=>Gc x y)=some (l.any λx=>decide (x.Name=y.Name)):=
 Np (l:=l) (p:=λx=>Gc x y) (λx=>decide (x.Name=y.Name)) (λx _=>rfl) (by omega) (o:=ja (Hc l (λx=>Gc x y)) 0) rfl
theorem ZQ{l:List GRule}(hl:l.length<=1048576) (y:GRule):Pb l (λx=>Gf x y)=some (l.any λx=>decide (x.Name=y.Name)):=
 Np (l:=l) (p:=λx=>Gf x y) (λx=>decide (x.Name=y.Name)) (λx _=>rfl) (by omega) (o:=ja (jd l (λx=>Gf x y)) 0) rfl
theorem KU{l:List ByteArray}(hl:l.length<=1048576) (y:ByteArray):Kd l y=some (l.any λx=>decide (x=y)):=by
 have h:=Np (l:=l) (p:=λx=>some (decide (y=x))) (λx=>decide (x=y)) (λx _=>by grind) (by omega) (o:=ja (Ld l y) 0) (by
  unfold Ld;simp)
 exact h
noncomputable def PZ(x:GEnum) (k:Nat):Option (Int×Int):=
 match x.Members[k]? with
 |some m=>if nr m=false then some (2,100+(k:Int))else if((x.Members.take k).any λy=>decide (y=m))=true then some (7,100+(k:Int))else none
 |none=>none
noncomputable def Tk(l:GLaw) (i:Nat) (x:GEnum):Int×Int:=
 if nr x.Name=false then(2,0)else if((l.Enums.take i).any λy=>decide (y.Name=x.Name))=true then(7,0)
 else if x.Members.length=0 then(5,0)else if 16<x.Members.length then(4,116)else(ff (PZ x) x.Members.length).getD (0,0)
theorem GC{l:GLaw}(h:LawOk l) {i:Nat}(hi:i<l.Enums.length):Hn l (i:Int) l.Enums[i]=some (Tk l i l.Enums[i]):=by
 obtain⟨g1,g2⟩:=h.e _ (xaa hi);have hne:=h.ne;generalize l.Enums[i]=x at g1 g2⊢;unfold Hn Tk;rw[xo (by omega),naa];cases nr x.Name
 .rfl
 simp only[Eaa,tab,if_false];rw[Nv (by omega),naa,bB (by grind),naa];cases (l.Enums.take i).any λy=>decide (y.Name=x.Name)
 .simp only[Eaa,tab,if_false];by_cases b:x.Members.length=0
  .simp_all
  rw[if_neg (by omega),if_neg b];by_cases a:16<x.Members.length
  .grind
  rw[if_neg (by omega),if_neg a];have hl:ja (Jj x) 0=some (Ki () (ff (PZ x) x.Members.length)):=
   Th (λk=>(k:Int)) _ _ _ (λk hk _=>by
    have hm:=g2 _ (xaa hk);unfold Jj PZ;rw[if_pos (by omega),Pa hk,naa,xo (by omega),naa,qaa hk,wid (n:=100+(k:Int)) (by omega) (by omega),Ha (by omega),Nv (by omega),naa,KU (by grind),naa];simp only;cases nr x.Members[k]
    .rfl
    .simp only[Eaa,tab,if_false];cases (x.Members.take k).any λy=>decide (y=x.Members[k])<;>rfl) (λ_=>by grind[Jj])
  rw[hl];cases ff (PZ x) x.Members.length<;>rfl
 .rfl
noncomputable def Ar(l:GLaw) (i:Nat) (x:GTable):Int×Int:=
 if nr x.Name=false then(2,0)
 else if((l.Enums.any λy=>decide (y.Name=x.Name)) || (l.Tables.take i).any λy=>decide (y.Name=x.Name))=true then(7,0)
 else if(Br x l.Enums).2=0 then(0,0)else((Br x l.Enums).2,if(Br x l.Enums).1 = -1 then 0 else 100+(Br x l.Enums).1)
theorem MN(t:GTable) (e:List GEnum):-1<=(Br t e).1/\(Br t e).1<=64:=by
 unfold Br;split
 .simp
 .split
  .simp
  .cases h:ff (FG t e) t.Rows.length with
   |none=>simp
   |some v=>
    grind[FG,Ob]
theorem fR{l:GLaw}(h:LawOk l):ja (xh l) 0=some (Ki () (ff (λi=>match l.Tables[i]? with|some x=>if(Ar l i x).1=0 then none else some (⟨(Ar l i x).1,2,(i:Int),(Ar l i x).2⟩:GLawError)|none=>none) l.Tables.length)):=by
 have hnt:=h.nt;have a:=h.ne;refine Th (λk=>(k:Int)) _ _ _ (λi hi _=>?_) (λ_=>by grind[xh]);have hx:=h.t _ (xaa hi);unfold xh Ar;rw[if_pos (by omega),Pa hi,naa,qaa hi,Ha (by omega)];simp only;generalize l.Tables[i]=x at hx⊢;have hr:=MN x l.Enums;rw[yB,naa,xo (by omega),naa,bB a,naa,Nv (by omega),naa,zE (by grind),wid (n:=100+(Br x l.Enums).1) (by omega) (by omega)]
 grind[aD]
noncomputable def wv(l:GLaw) (f:GField) (a b:List GField):Int:=
 if nr f.Name=false then 2 else if((a.any λy=>decide (y.Name=f.Name)) || b.any λy=>decide (y.Name=f.Name))=true then 7 else if va f.Type_ l.Enums=false then 8 else 0
theorem Hu{l:GLaw}{f:GField}{a b:List GField}(hf:f.Name.size<=1048576) (ha:a.length<=1048576) (hb:b.length<=1048576):vh l f a b=some (wv l f a b):=by
 unfold vh wv;rw[xo (by omega),naa,yE ha,naa,yE hb,Zb,naa]
 grind
theorem CC{l:List GField}(hl:l.length<=1048576) {step:List GType×Int->Option (Ex (List GType×Int) (List GType) Unit)}
 (hstep:∀(a:List GType) (i:Nat) (hi:i<l.length),step (a,(i:Int))=((app 16 a [l[i].Type_]).bind λx=>some (.go (x,ca .i64 ((i:Int)+1)))))
 (hend:∀a,step (a,(l.length:Int))=some (.brk a)):ja step (([]:List GType),0)=some (.inl (l.map (·.Type_))):=by
 refine Yg (λi=>((l.take i).map (·.Type_),(i:Int))) l.length _ (λi hi=>?_) (by simp_all) (by simp)
 grind[kj,Ha,Uaa]
theorem Xp{l:List GField}(hl:l.length<=1048576):zh l=some (l.map (·.Type_)):=by
 unfold zh;rw[CC hl (step:=Ji l) (λa i hi=>by simp_all[Ji,Pa]) (λa=>by grind[Ji])];rfl
def CF(l:GLaw) (s:GScope):GSignature:=
 if h:0<=s.MemberScope/\s.MemberScope<(l.Scopes.length:Int)then⟨l.Enums,l.Tables,s.Inputs.map (·.Type_),s.Defs.map (·.Type_),(l.Scopes[s.MemberScope.toNat]'(by omega)).Defs.map (·.Type_),true⟩
 else⟨l.Enums,l.Tables,s.Inputs.map (·.Type_),s.Defs.map (·.Type_),[],false⟩
theorem Wv{l:GLaw}(h:LawOk l) {i:Nat}(hi:i<l.Scopes.length):Lg l (i:Int)=some (CF l l.Scopes[i]):=by
 obtain⟨g1,g2,g3,-⟩:=h.s _ (xaa hi);have gd:=g2.defs;unfold Lg CF;rw[Pa hi,naa];generalize l.Scopes[i]=x at gd g3⊢;rw[Xp g3,naa,Xp gd,naa];by_cases hm:0<=x.MemberScope/\x.MemberScope<(l.Scopes.length:Int)
 .have hd:=(h.s _ (xaa (l:=l.Scopes) (n:=x.MemberScope.toNat) (by omega))).2.1.defs
  simp_all[pn,Xp]
 grind
def IH(s:ByteArray) (i:Nat):Bool:=if h:i<s.size then decide (32<=(s[i].toNat:Int))&&decide ((s[i].toNat:Int)<=126)&&!((s[i].toNat:Int)==34)else true
def S3(s:ByteArray):Bool:=decide (s.size<=64)&&(ff (λi=>if IH s i=true then none else some false) s.size).isNone
theorem kR{s:ByteArray}{c:UInt8}:s.data.toList.contains c=true↔∃i,∃h:i<s.size,s[i]=c:=by
 rw[List.contains_iff_mem];constructor
 .intro h;obtain⟨i,hi,he⟩:=Aaa h;exact⟨i,by simpa using hi,by rw[←he];rfl⟩
 .rintro⟨i,hi,rfl⟩;exact xaa (l:=s.data.toList) (n:=i) (by simp_all)
theorem Tz{s:ByteArray}(hs:s.size<=1048576):ei s=some (S3 s):=by
 unfold ei S3 strings_Contains;rw[if_pos (show(yaa #[34]).size=1 from rfl)];by_cases h64:64<s.size
 .grind
 rw[if_pos (by omega),decide_eq_true (p:=s.size<=64) (by omega)];have d:ja (Ah s) 0=some (Ki () (ff (λi=>if(if h:i<s.size then decide (32<=(s[i].toNat:Int))&&decide ((s[i].toNat:Int)<=126)else true)=true then none else some false) s.size)):=
  Th (λi=>(i:Int)) _ _ _ (λi hi _=>by
   unfold Ah;rw[if_pos (by omega),GW hi,naa,Ha (by omega),dif_pos hi]
   grind[aD]) (λ_=>by grind[Ah])
 rw[d];simp only[naa,xac];have hc:=kR (s:=s) (c:=34);change (s.data.toList.contains ((yaa #[34]).data.toList.headD 0))=true↔_ at hc;have h34:∀i (h:i<s.size),s[i]=34↔(s[i].toNat:Int)=34:=λi h=>by
  constructor
  .simp_all
  .intro he;apply UInt8.toNat_inj.1
   grind
 cases hq:s.data.toList.contains ((yaa #[34]).data.toList.headD 0)
 .rw[hq]at hc;have hno:∀i (h:i<s.size),(s[i].toNat:Int)≠34:=λi h he=>by
   simp_all
  rw[if_neg (by simp)];have b:ff (λi=>if(if h:i<s.size then decide (32<=(s[i].toNat:Int))&&decide ((s[i].toNat:Int)<=126)else true)=true then none else some false) s.size=ff (λi=>if IH s i=true then none else some false) s.size:=by
   simp_all[IH]
  rw[b]
  cases h2:ff (λi=>if IH s i=true then none else some false) s.size with
  |none=>rfl
  |some v=>
   obtain⟨j,j1,a,-⟩:=Ob.1 h2;split at a
   .grind
   .injection a with a;subst a;rfl
 .obtain⟨i,hi,he⟩:=hc.1 hq;rw[if_pos rfl]
  cases h2:ff (λi=>if IH s i=true then none else some false) s.size with
  |some v=>rfl
  |none=>
   simp_all[IH,Jb]
noncomputable def RF(e:List GNode) (s:GSignature) (t:GType):Int:=
 if¬(Pv e s).2.2=0 then(Pv e s).2.2 else if¬((Pv e s).1.Kind=t.Kind/\(Pv e s).1.Enum=t.Enum)then 8 else 0
theorem Kv{e:List GNode}(hN:∀n∈e,Bd n) (s:GSignature) (t:GType):cj e s t=some (RF e s t):=by
 grind[cj,RF,vG]
def IG(x:GScope) (k:Nat) (r:GRule):Nat:=((x.Rules.take k).filter λy=>decide (y.Def=r.Def)).length
theorem D3(x:GScope) (k:Nat) (r:GRule):IG x k r<=k:=by
 grind[IG]
theorem SR{x:GScope}{k:Nat}{r:GRule}(hk:k<x.Rules.length):IG x (k+1) r=if x.Rules[k].Def=r.Def then IG x k r+1 else IG x k r:=by
 unfold IG;rw[Uaa,qaa hk,List.filter_append,List.length_append]
 grind
def PI(x:GScope) (k:Nat) (r:GRule):Bool:=
 if r.Parent = -1 then false else if r.Parent<0 then true else if(k:Int)<=r.Parent then true else match x.Rules[r.Parent.toNat]? with|some q=>q.Def !=r.Def|none=>true
noncomputable def rC(x:GScope) (s:GSignature) (k:Nat) (r:GRule):Int:=
 if nr r.Name=false then 2
 else if((x.Rules.take k).any λy=>decide (y.Name=r.Name))=true then 7
 else if r.Def<0\/(x.Defs.length:Int)<=r.Def then 6
 else if PI x k r=true then 9
 else if r.Priority<0\/9<r.Priority\/r.Valid.From<0\/r.Valid.To<=r.Valid.From\/109573<r.Valid.To then 3
 else if 8<=IG x k r then 4
 else if S3 r.Source=false then 2
 else if 0<r.Guard.length/\RF r.Guard s ⟨1,0⟩≠0 then RF r.Guard s ⟨1,0⟩
 else RF r.Value s (match x.Defs[r.Def.toNat]? with|some d=>d.Type_|none=>⟨0,0⟩)
structure RuleOk (r:GRule):Prop where
 nm:r.Name.size<=1048576
 src:r.Source.size<=1048576
 g:∀n∈r.Guard,Bd n
 v:∀n∈r.Value,Bd n
theorem par_s{x:GScope}{k:Nat}{r:GRule}(hk:k<x.Rules.length) {o:Option Bool}(ho:o=(if¬r.Parent = -1 then if¬r.Parent<0 then if¬(k:Int)<=r.Parent then(idx x.Rules r.Parent).bind λy=>some (y.Def !=r.Def)else some true else some true else some false)):o=some (PI x k r):=by
 rw[ho];unfold PI;by_cases a:r.Parent = -1
 .grind
 by_cases h2:r.Parent<0
 .simp_all
 by_cases b:(k:Int)<=r.Parent
 .simp_all
 .rw[if_pos a,if_pos h2,if_pos b,if_neg a,if_neg h2,if_neg b,pn (by omega) (by omega),naa,qaa]
theorem HC{x:GScope}(hx:ScOk x) {k:Nat}(hk:k<x.Rules.length) (hr:RuleOk x.Rules[k]) (s:GSignature):kl x (k:Int) s=some (rC x s k x.Rules[k]):=by
 have hrl:=hx.rules;have hdl:=hx.defs;unfold kl rC;rw[Pa hk,naa,Nv (by omega),naa];generalize hrr:x.Rules[k]=r at hr⊢;have hl:ja (Kj r (x.Rules.take k)) (0,0)=some (.inl ((IG x k r:Nat):Int)):=by
  refine Yg (λi=>(((IG x i r:Nat):Int),(i:Int))) k _ (λi hi=>?_) ?_ rfl
  .have:=D3 x i r;unfold Kj;simp only;rw[if_pos (by grind),Pa (by grind),naa,Ha (by omega),Ha (by omega),Vac,SR (by omega)]
   grind
  grind[Kj]
 rw[hl,naa];simp only;rw[xo (by have:=hr.nm;omega),naa,naa,ZQ (by grind),naa];cases nr r.Name
 .rfl
 simp only[tab,if_false];cases (x.Rules.take k).any λy=>decide (y.Name=r.Name)
 .simp only[Eaa,if_false];by_cases hd:r.Def<0\/(x.Defs.length:Int)<=r.Def
  .grind
  .rw[if_neg hd,if_pos (by omega),naa,if_neg (by simp_all)];rw[par_s hk rfl,naa];cases PI x k r
   .simp only[Eaa,if_false];by_cases hp:r.Priority<0\/9<r.Priority
    .grind
    .rw[if_pos (show¬r.Priority<0 by omega),naa,if_neg (by simp_all)];by_cases hv:r.Valid.From<0\/r.Valid.To<=r.Valid.From\/109573<r.Valid.To
     .grind
     .rw[if_pos (show¬r.Valid.From<0 by omega),if_pos (show¬r.Valid.To<=r.Valid.From by omega),naa,if_neg (by simp_all),if_neg (show¬(r.Priority<0\/9<r.Priority\/r.Valid.From<0\/r.Valid.To<=r.Valid.From\/109573<r.Valid.To) by omega)];by_cases b:8<=IG x k r
      .grind
      rw[if_neg (by omega),if_neg b,Tz hr.src,naa];cases S3 r.Source
      .rfl
      simp only[tab,if_false];have hi:idx x.Defs r.Def=some (x.Defs[r.Def.toNat]'(by omega)):=pn (by omega) (by omega);have a:x.Defs[r.Def.toNat]?=some (x.Defs[r.Def.toNat]'(by omega)):=qaa _;simp only[hi,a,Kv hr.g,Kv hr.v,naa]
      grind
   .rfl
 .rfl
theorem ruleOk{l:GLaw}(h:LawOk l) {i:Nat}(hi:i<l.Scopes.length) {r:GRule}(hr:r∈l.Scopes[i].Rules):RuleOk r:=by
 obtain⟨-,-,-,-,-,g⟩:=h.s _ (xaa hi);obtain⟨a,b,c,d⟩:=g r hr;exact⟨a,b,c,d⟩
noncomputable def inF(l:GLaw) (x:GScope) (k:Nat):Option (Int×Int):=
 match x.Inputs[k]? with
 |some f=>if wv l f (x.Inputs.take k) []=0 then none else some (wv l f (x.Inputs.take k) [],100+(k:Int))
 |none=>none
noncomputable def kM(l:GLaw) (x:GScope) (k:Nat):Option (Int×Int):=
 match x.Defs[k]? with
 |some f=>if wv l f x.Inputs (x.Defs.take k)=0 then none else some (wv l f x.Inputs (x.Defs.take k),200+(k:Int))
 |none=>none
noncomputable def zN(l:GLaw) (x:GScope) (k:Nat):Option (Int×Int):=
 match x.Rules[k]? with
 |some r=>if rC x (CF l x) k r=0 then none else some (rC x (CF l x) k r,300+(k:Int))
 |none=>none
open Classical in
noncomputable def oQ(x:GScope) (k:Nat):Option (Int×Int):=if Way x (k:Int) (k:Int)then some (9,200+(k:Int))else none
def mB(l:GLaw) (i:Nat) (x:GScope):Bool:=
 if x.MemberScope = -1 then false else if x.MemberScope<0 then true else if(i:Int)<=x.MemberScope then true else match l.Scopes[x.MemberScope.toNat]? with|some q=>q.MemberScope !=-1|none=>true
noncomputable def ko(l:GLaw) (i:Nat) (x:GScope):Int×Int:=
 if nr x.Name=false then(2,0)
 else if((l.Enums.any λy=>decide (y.Name=x.Name)) || ((l.Tables.any λy=>decide (y.Name=x.Name)) || (l.Scopes.take i).any λy=>decide (y.Name=x.Name)))=true then(7,0)
 else if mB l i x=true then(6,0)
 else if 12<x.Inputs.length then(4,112)
 else if 12<x.Defs.length then(4,212)
 else match ff (inF l x) x.Inputs.length with
  |some v=>v
  |none=>match ff (kM l x) x.Defs.length with
   |some v=>v
   |none=>match ff (zN l x) x.Rules.length with
    |some v=>v
    |none=>(ff (oQ x) x.Defs.length).getD (0,0)
theorem jR{l:GLaw}{i:Nat}{x:GScope}(hi:i<l.Scopes.length) {o:Option Bool}(ho:o=(if¬x.MemberScope = -1 then if¬x.MemberScope<0 then if¬(i:Int)<=x.MemberScope then(idx (l.Scopes.take i) x.MemberScope).bind λy=>some (y.MemberScope !=-1)else some true else some true else some false)):o=some (mB l i x):=by
 rw[ho];unfold mB;by_cases a:x.MemberScope = -1
 .grind
 by_cases h2:x.MemberScope<0
 .simp_all
 by_cases b:(i:Int)<=x.MemberScope
 .simp_all
 .rw[if_pos a,if_pos h2,if_pos b,if_neg a,if_neg h2,if_neg b,pn (by omega) (by grind),naa,qaa (by omega),Vac]
theorem iB{l:GLaw}(h:LawOk l) {i:Nat}(hi:i<l.Scopes.length):Lj l (i:Int)=some (ko l i l.Scopes[i]):=by
 obtain⟨g1,g2,g3,g4,g5,f⟩:=h.s _ (xaa hi);have c:=h.ne;have d:=h.nt;have hns:=h.ns;have hS:=Wv h hi;have b:∀r∈l.Scopes[i].Rules,RuleOk r:=λr hr=>ruleOk h hi hr;unfold Lj ko;rw[Pa hi,naa,Nv (by omega),naa];generalize l.Scopes[i]=x at g1 g2 g3 g4 g5 f hS b⊢;have gd:=g2.defs;have gr:=g2.rules;rw[bB c,naa,zE d,OM (by grind),xo (by omega)];have e:(if(l.Enums.any λy=>decide (y.Name=x.Name))=false then(some (l.Tables.any λy=>decide (y.Name=x.Name))).bind λu=>if u=false then(some ((l.Scopes.take i).any λy=>decide (y.Name=x.Name))).bind λw=>some w else some true else some true) =
  some ((l.Enums.any λy=>decide (y.Name=x.Name)) || ((l.Tables.any λy=>decide (y.Name=x.Name)) || (l.Scopes.take i).any λy=>decide (y.Name=x.Name))):=by
  grind
 rw[e,naa,naa];cases nr x.Name
 .rfl
 simp only[tab,if_false];cases (l.Enums.any λy=>decide (y.Name=x.Name)) || ((l.Tables.any λy=>decide (y.Name=x.Name)) || (l.Scopes.take i).any λy=>decide (y.Name=x.Name))
 .simp only[Eaa,if_false];rw[jR (l:=l) (x:=x) hi rfl,naa];cases mB l i x
  .simp only[Eaa,if_false];by_cases j:12<x.Inputs.length
   .grind
   rw[if_neg (by omega),if_neg j];by_cases g:12<x.Defs.length
   .grind
   rw[if_neg (by omega),if_neg g];have m:ja (Ii l x) 0=some (Ki () (ff (inF l x) x.Inputs.length)):=
    Th (λk=>(k:Int)) _ _ _ (λk hk _=>by
     unfold Ii inF;rw[if_pos (by omega),Pa hk,naa,Nv (by omega),naa,Hu (g4 _ (xaa hk)) (by grind) (by simp),naa,qaa hk,wid (n:=100+(k:Int)) (by omega) (by omega),Ha (by omega)];dsimp only;by_cases a:wv l x.Inputs[k] (x.Inputs.take k) []=0
     .rw[if_neg (by omega),if_pos a];rfl
     .rw[if_pos a,if_neg a];rfl) (λ_=>by grind[Ii])
   have o:ja (Gi l x) 0=some (Ki () (ff (kM l x) x.Defs.length)):=
    Th (λk=>(k:Int)) _ _ _ (λk hk _=>by
     unfold Gi kM;rw[if_pos (by omega),Pa hk,naa,Nv (by omega),naa,Hu (g5 _ (xaa hk)) g3 (by grind),naa,qaa hk,wid (n:=200+(k:Int)) (by omega) (by omega),Ha (by omega)];dsimp only;by_cases a:wv l x.Defs[k] x.Inputs (x.Defs.take k)=0
     .rw[if_neg (by omega),if_pos a];rfl
     .rw[if_pos a,if_neg a];rfl) (λ_=>by grind[Gi])
   have p:ja (Fi x (CF l x)) 0=some (Ki () (ff (zN l x) x.Rules.length)):=
    Th (λk=>(k:Int)) _ _ _ (λk hk _=>by
     unfold Fi zN;rw[if_pos (by omega),HC g2 hk (b _ (xaa hk)),naa,qaa hk,wid (n:=300+(k:Int)) (by omega) (by omega),Ha (by omega)];dsimp only;by_cases a:rC x (CF l x) k x.Rules[k]=0
     .rw[if_neg (by omega),if_pos a];rfl
     .rw[if_pos a,if_neg a];rfl) (λ_=>by grind[Fi])
   have t:ja (Ei x) 0=some (Ki () (ff (oQ x) x.Defs.length)):=
    Th (λk=>(k:Int)) _ _ _ (λk hk _=>by
     obtain⟨q,q1,q2,q3⟩:=Ml g2 (k:Int);unfold Ei oQ;rw[if_pos (by omega),q1,naa,gI (by omega),naa,wid (n:=200+(k:Int)) (by omega) (by omega),Ha (by omega)];by_cases a:Way x (k:Int) (k:Int)
     .rw[if_pos (by simp_all),if_pos a];rfl
     .rw[if_neg (by simp_all),if_neg a];rfl) (λ_=>by grind[Ei])
   rw[m,naa]
   cases ff (inF l x) x.Inputs.length with
   |some v=>rfl
   |none=>
    simp only[Ki];rw[o,naa]
    cases ff (kM l x) x.Defs.length with
    |some v=>rfl
    |none=>
     simp only[Ki];rw[hS,naa,p,naa]
     cases ff (zN l x) x.Rules.length with
     |some v=>rfl
     |none=>
      simp only[Ki];rw[t,naa];cases ff (oQ x) x.Defs.length<;>rfl
  .rfl
 .rfl
theorem G8{α β:Type}{f:Nat->Option α}(g:α->β) {n:Nat}:ff (λk=>(f k).map g) n=(ff f n).map g:=by
 cases h1:ff f n with
 |none=>grind[Jb]
 |some v=>grind[Ob]
def le3(i:Nat) (v:Int×Int):GLawError:=⟨v.1,3,(i:Int),v.2⟩
theorem NU{l:GLaw}{x:GScope}{k:Nat}{v:Int×Int}(h:inF l x k=some v):v.1≠0:=by
 grind[inF]
theorem nO{l:GLaw}{x:GScope}{k:Nat}{v:Int×Int}(h:kM l x k=some v):v.1≠0:=by
 grind[kM]
theorem pP{l:GLaw}{x:GScope}{k:Nat}{v:Int×Int}(h:zN l x k=some v):v.1≠0:=by
 grind[zN]
theorem fH{f:Nat->Option (Int×Int)}(hf:∀{k v},f k=some v->v.1≠0) {n:Nat}{v:Int×Int}(h:ff f n=some v):v.1≠0:=by
 grind[Ob]
noncomputable def oo(l:GLaw):GLawError:=
 if 8<l.Enums.length then⟨4,1,8,0⟩
 else match ff (λi=>match l.Enums[i]? with|some x=>if(Tk l i x).1=0 then none else some (⟨(Tk l i x).1,1,(i:Int),(Tk l i x).2⟩:GLawError)|none=>none) l.Enums.length with
  |some v=>v
  |none=>
   if 8<l.Tables.length then⟨4,2,8,0⟩
   else match ff (λi=>match l.Tables[i]? with|some x=>if(Ar l i x).1=0 then none else some (⟨(Ar l i x).1,2,(i:Int),(Ar l i x).2⟩:GLawError)|none=>none) l.Tables.length with
    |some v=>v
    |none=>
     if 4<l.Scopes.length then⟨4,3,4,0⟩
     else(ff (λi=>match l.Scopes[i]? with|some x=>if(ko l i x).1=0 then none else some (le3 i (ko l i x))|none=>none) l.Scopes.length).getD ⟨0,0,0,0⟩
theorem sx{f:Nat->Option GLawError}(hf:∀{k v},f k=some v->v.Code≠0) {n:Nat}{v:GLawError}(h:ff f n=some v):v.Code≠0:=by
 grind[Ob]
theorem vM{l:GLaw}{k:Nat}{v:GLawError}(h:(match l.Enums[k]? with|some x=>if(Tk l k x).1=0 then none else some (⟨(Tk l k x).1,1,(k:Int),(Tk l k x).2⟩:GLawError)|none=>none)=some v):v.Code≠0:=by
 grind
theorem LN{l:GLaw}{k:Nat}{v:GLawError}(h:(match l.Tables[k]? with|some x=>if(Ar l k x).1=0 then none else some (⟨(Ar l k x).1,2,(k:Int),(Ar l k x).2⟩:GLawError)|none=>none)=some v):v.Code≠0:=by
 grind
theorem Ij{l:GLaw}(h:LawOk l):Ik l=some (oo l):=by
 have hne:=h.ne;have hnt:=h.nt;have hns:=h.ns;have le:ja (Di l) 0=some (Ki () (ff (λi=>match l.Enums[i]? with|some x=>if(Tk l i x).1=0 then none else some (⟨(Tk l i x).1,1,(i:Int),(Tk l i x).2⟩:GLawError)|none=>none) l.Enums.length)):=
  Th (λk=>(k:Int)) _ _ _ (λk hk _=>by
   unfold Di;rw[if_pos (by omega),Pa hk,naa,GC h hk,naa,qaa hk,Ha (by omega)];dsimp only;by_cases a:(Tk l k l.Enums[k]).1=0
   .rw[if_neg (by omega),if_pos a];rfl
   .rw[if_pos a,if_neg a];rfl) (λ_=>by grind[Di])
 have ls:ja (wh l) 0=some (Ki () (ff (λi=>match l.Scopes[i]? with|some x=>if(ko l i x).1=0 then none else some (le3 i (ko l i x))|none=>none) l.Scopes.length)):=
  Th (λk=>(k:Int)) _ _ _ (λk hk _=>by
   unfold wh;rw[if_pos (by omega),iB h hk,naa,qaa hk,Ha (by omega)];dsimp only;by_cases a:(ko l k l.Scopes[k]).1=0
   .rw[if_neg (by omega),if_pos a];rfl
   .rw[if_pos a,if_neg a];rfl) (λ_=>by grind[wh])
 unfold Ik Zo Wn Vn oo;by_cases b:8<l.Enums.length
 .grind
 rw[if_neg (by omega),if_neg b,le]
 cases c:ff (λi=>match l.Enums[i]? with|some x=>if(Tk l i x).1=0 then none else some (⟨(Tk l i x).1,1,(i:Int),(Tk l i x).2⟩:GLawError)|none=>none) l.Enums.length with
 |some v=>
  have:=sx (f:=λi=>match l.Enums[i]? with|some x=>if(Tk l i x).1=0 then none else some (⟨(Tk l i x).1,1,(i:Int),(Tk l i x).2⟩:GLawError)|none=>none) vM c
  simp_all[Ki]
 |none=>
  simp only[Ki,naa];rw[if_neg (by simp)];by_cases b:8<l.Tables.length
  .grind
  rw[if_neg (by omega),if_neg b,fR h]
  cases d:ff (λi=>match l.Tables[i]? with|some x=>if(Ar l i x).1=0 then none else some (⟨(Ar l i x).1,2,(i:Int),(Ar l i x).2⟩:GLawError)|none=>none) l.Tables.length with
  |some v=>
   have:=sx (f:=λi=>match l.Tables[i]? with|some x=>if(Ar l i x).1=0 then none else some (⟨(Ar l i x).1,2,(i:Int),(Ar l i x).2⟩:GLawError)|none=>none) LN d
   simp_all[Ki]
  |none=>
   simp only[Ki,naa];rw[if_neg (by simp)];by_cases b:4<l.Scopes.length
   .grind
   rw[if_neg (by omega),if_neg b,ls];cases ff (λi=>match l.Scopes[i]? with|some x=>if(ko l i x).1=0 then none else some (le3 i (ko l i x))|none=>none) l.Scopes.length<;>rfl
structure Valid (l:GLaw):Prop where
 e:∀i (h:i<l.Enums.length),(Tk l i l.Enums[i]).1=0
 t:∀i (h:i<l.Tables.length),(Ar l i l.Tables[i]).1=0
 s:∀i (h:i<l.Scopes.length),(ko l i l.Scopes[i]).1=0
 ne:l.Enums.length<=8
 nt:l.Tables.length<=8
 ns:l.Scopes.length<=4
theorem TF{l:GLaw}(h:(oo l).Code=0):Valid l:=by
 unfold oo at h;split at h
 .grind
 rename_i h1;split at h
 .rename_i v hv;exact(sx (f:=λi=>match l.Enums[i]? with|some x=>if(Tk l i x).1=0 then none else some (⟨(Tk l i x).1,1,(i:Int),(Tk l i x).2⟩:GLawError)|none=>none) vM hv h).elim
 rename_i he;split at h
 .grind
 rename_i h2;split at h
 .rename_i v hv;exact(sx (f:=λi=>match l.Tables[i]? with|some x=>if(Ar l i x).1=0 then none else some (⟨(Ar l i x).1,2,(i:Int),(Ar l i x).2⟩:GLawError)|none=>none) LN hv h).elim
 rename_i ht;split at h
 .grind
 rename_i h3;refine⟨λi hi=>?_,λi hi=>?_,λi hi=>?_,by omega,by omega,by omega⟩
 .grind[Jb]
 .grind[Jb]
 .generalize hf:ff _ l.Scopes.length=o at h
  cases o with
  |some v=>
   rw[Rab]at h;obtain⟨k,c,a,-⟩:=Ob.1 hf;rw[qaa c]at a;dsimp only at a;split at a
   .grind
   .rename_i b;injection a with a;subst a;exact(b h).elim
  |none=>
   grind[Jb]
theorem Valid.rows{l:GLaw}(h:Valid l):∀x∈l.Tables,x.Rows.length<=64:=by
 intro x hx;obtain⟨i,hi,rfl⟩:=Aaa hx;have:=h.t i hi
 grind[Ar,Br]
theorem pz{n:Nat}(hn:n<=1048576) (bad:Nat->Bool) {step:Int->Option (Ex Int Unit Bool)}(a:∀i:Nat,i<n->step (i:Int)=if bad i=true then some (.ret false)else some (.go (ca .i64 ((i:Int)+1)))) (b:step (n:Int)=some (.brk ())) :
 (ja step 0=some (.inr false))\/(ja step 0=some (.inl ())/\∀i,i<n->bad i=false):=by
 have h:=Th (step:=step) (x0:=0) (λi=>(i:Int)) (λi=>if bad i=true then some false else none) n () (λi hi _=>by
  rw[a i hi,Ha (by omega)];cases bad i<;>rfl) (λ_=>b)
 cases hf:ff (λi=>if bad i=true then some false else none) n with
 |none=>
  right;rw[hf]at h;refine⟨h,λi hi=>?_⟩
  grind[Jb]
 |some v=>
  left;rw[hf]at h;obtain⟨k,-,c,-⟩:=Ob.1 hf;split at c
  .injection c with c;subst c;exact h
  grind
structure SmallSc (s:GScope):Prop where
 nm:s.Name.size<=80
 ins:s.Inputs.length<=14
 defs:s.Defs.length<=14
 rules:s.Rules.length<=60
 i:∀f∈s.Inputs,f.Name.size<=80
 d:∀f∈s.Defs,f.Name.size<=80
 r:∀r∈s.Rules,r.Name.size<=80/\r.Source.size<=80/\r.Guard.length<=50/\r.Value.length<=50
theorem vA(s:GScope):∃b,Eg s=some b/\(b=true->SmallSc s):=by
 unfold Eg;by_cases h1:80<(s.Name.size:Int)
 .simp_all
 by_cases h2:14<(s.Inputs.length:Int)
 .simp_all
 by_cases h3:14<(s.Defs.length:Int)
 .simp_all
 by_cases h4:60<(s.Rules.length:Int)
 .simp_all
 have hc:(if¬80<(s.Name.size:Int)then if¬14<(s.Inputs.length:Int)then if¬14<(s.Defs.length:Int)then some (decide (60<(s.Rules.length:Int)))else some true else some true else some true)=some false:=by
  grind
 rw[hc,naa,if_neg (by simp)];rcases pz (n:=s.Inputs.length) (by omega) (λi=>match s.Inputs[i]? with|some f=>decide (80<(f.Name.size:Int))|none=>false) (step:=Hh s) (λi hi=>by
  grind[Hh,Pa]) (by grind[Hh])with k|⟨k,k1⟩
 .grind
 rw[k,naa];dsimp only;rcases pz (n:=s.Defs.length) (by omega) (λi=>match s.Defs[i]? with|some f=>decide (80<(f.Name.size:Int))|none=>false) (step:=Fh s) (λi hi=>by
  grind[Fh,Pa]) (by grind[Fh])with k|⟨k,k2⟩
 .grind
 rw[k,naa];dsimp only;rcases pz (n:=s.Rules.length) (by omega) (λi=>match s.Rules[i]? with|some r=>decide (80<(r.Name.size:Int)\/80<(r.Source.size:Int)\/50<(r.Guard.length:Int)\/50<(r.Value.length:Int))|none=>false) (step:=Eh s) (λi hi=>by
  unfold Eh;rw[if_pos (by omega),Pa hi,naa,qaa hi]
  grind) (by grind[Eh])with k|⟨k,k3⟩
 .grind
 rw[k,naa];refine⟨true,rfl,λ_=>⟨by omega,by omega,by omega,by omega,?_,?_,?_⟩⟩
 .intro f hf;obtain⟨i,hi,rfl⟩:=Aaa hf
  grind
 .intro f hf;obtain⟨i,hi,rfl⟩:=Aaa hf
  grind
 .intro r hr;obtain⟨i,hi,rfl⟩:=Aaa hr
  grind
def xr(l:GLaw):Nat->Int
 |0=>0
 |k+1=>match l.Tables[k]? with|some t=>ca .i64 (xr l k+(t.Rows.length:Int))|none=>xr l k
structure SmallL (l:GLaw):Prop where
 ne:l.Enums.length<=9
 nt:l.Tables.length<=9
 ns:l.Scopes.length<=5
 e:∀x∈l.Enums,x.Name.size<=80/\x.Members.length<=20/\∀m∈x.Members,m.size<=80
 t:∀x∈l.Tables,x.Name.size<=80
 s:∀x∈l.Scopes,SmallSc x
 rt:∀i,i<l.Tables.length->xr l (i+1)<=150
def Gx(l:GLaw):Nat->Int
 |0=>0
 |k+1=>match l.Scopes[k]? with|some t=>ca .i64 (Gx l k+(t.Rules.length:Int))|none=>Gx l k
def mU(l:GLaw) (i:Nat):Bool:=match l.Enums[i]? with|some x=>decide (80<(x.Name.size:Int)) || decide (20<(x.Members.length:Int)) || (x.Members.any λm=>decide (80<(m.size:Int)))|none=>false
theorem XJ{l:GLaw}{i:Nat}(hi:i<l.Enums.length):mU l i=(decide (80<(l.Enums[i].Name.size:Int)) || decide (20<(l.Enums[i].Members.length:Int)) || (l.Enums[i].Members.any λm=>decide (80<(m.size:Int)))):=by
 grind[mU]
theorem RC(l:GLaw):∃b,Pn l=some b/\(b=true->SmallL l):=by
 unfold Pn;by_cases h1:9<(l.Enums.length:Int)
 .simp_all
 by_cases h2:9<(l.Tables.length:Int)
 .simp_all
 by_cases h3:5<(l.Scopes.length:Int)
 .simp_all
 have hc:(if¬9<(l.Enums.length:Int)then if¬9<(l.Tables.length:Int)then some (decide (5<(l.Scopes.length:Int)))else some true else some true)=some false:=by
  grind
 rw[hc,naa,if_neg (by simp)];have d:∀i (hi:i<l.Enums.length),l.Enums[i].Members.length<=20->ja (nh l (i:Int)) 0=some (if(l.Enums[i].Members.any λm=>decide (80<(m.size:Int)))=true then .inr (.ret false)else .inl ()):=by
  intro i hi hm;have h:=Th (step:=nh l (i:Int)) (x0:=0) (λk=>(k:Int)) (λk=>if(l.Enums[i].Members[k]?.any λm=>decide (80<(m.size:Int)))=true then some (Ex.ret false)else none) l.Enums[i].Members.length () (λk hk _=>by
   unfold nh;rw[Pa hi,naa,if_pos (by omega),Pa hk,naa,qaa hk,Ha (by omega)];simp only[Option.any_some,decide_eq_true_eq];by_cases hb:80<(l.Enums[i].Members[k].size:Int)
   .rw[if_pos hb,if_pos hb];rfl
   .rw[if_neg hb,if_neg hb];rfl) (λ_=>by grind[nh,Pa])
  rw[h,←yI (g:=λ_=>(Ex.ret false:Ex Int Unit Bool))]
  cases hf:ff (λk=>if(l.Enums[i].Members[k]?.any λm=>decide (80<(m.size:Int)))=true then some (Ex.ret false:Ex Int Unit Bool)else none) l.Enums[i].Members.length with
  |none=>rfl
  |some v=>
   obtain⟨k,-,e,-⟩:=Ob.1 hf;split at e
   .injection e with e;subst e;rfl
   grind
 rcases pz (n:=l.Enums.length) (by omega) (mU l) (step:=Si l) (λi hi=>by
  have d:=d i hi;unfold Si;rw[if_pos (by omega),Pa hi,naa,XJ hi]
  grind) (by grind[Si])with k|⟨k,k1⟩
 .grind
 rw[k,naa];dsimp only;have p:=Th (step:=Ri l) (x0:=(0,0)) (λi=>(xr l i,(i:Int))) (λi=>match l.Tables[i]? with|some x=>if(decide (80<(x.Name.size:Int)) || decide (150<xr l (i+1)))=true then some false else none|none=>none) l.Tables.length () (λi hi _=>by
  unfold Ri;simp only[xr,qaa hi];rw[if_pos (by omega),Pa hi,naa,Ha (by omega)]
  grind[aD]) (λ_=>by grind[Ri])
 rw[p,naa]
 cases hf:ff (λi=>match l.Tables[i]? with|some x=>if(decide (80<(x.Name.size:Int)) || decide (150<xr l (i+1)))=true then some false else none|none=>none) l.Tables.length with
 |some v=>
  refine⟨false,?_,by simp⟩;obtain⟨j,o,a,-⟩:=Ob.1 hf;rw[qaa o]at a;dsimp only at a;split at a
  .injection a with a;subst a;rfl
  grind
 |none=>
  have ht2:=Jb.1 hf;dsimp only[Ki];have hS:=Th (step:=Qi l) (x0:=(0,0)) (λi=>(Gx l i,(i:Int))) (λi=>match l.Scopes[i]? with|some x=>if(decide (60<Gx l (i+1)) || !((Eg x).getD true))=true then some false else none|none=>none) l.Scopes.length () (λi hi _=>by
   unfold Qi;simp only[Gx,qaa hi];rw[if_pos (by omega),Pa hi,naa,Ha (by omega)];obtain⟨b,hb,-⟩:=vA l.Scopes[i]
   grind[aD]) (λ_=>by grind[Qi])
  rw[hS,naa]
  cases c:ff (λi=>match l.Scopes[i]? with|some x=>if(decide (60<Gx l (i+1)) || !((Eg x).getD true))=true then some false else none|none=>none) l.Scopes.length with
  |some v=>
   refine⟨false,?_,by simp⟩;obtain⟨j,o,a,-⟩:=Ob.1 c;rw[qaa o]at a;dsimp only at a;split at a
   .injection a with a;subst a;rfl
   grind
  |none=>
   have f:=Jb.1 c;refine⟨true,rfl,λ_=>⟨by omega,by omega,by omega,?_,?_,?_,λi hi=>?_⟩⟩
   .intro x hx;obtain⟨i,hi,rfl⟩:=Aaa hx
    grind[XJ]
   .intro x hx;obtain⟨i,hi,rfl⟩:=Aaa hx
    grind
   .intro x hx;obtain⟨i,hi,rfl⟩:=Aaa hx;have:=f i hi;rw[qaa hi]at this;dsimp only at this;split at this
    .cases this
    .rename_i hn;obtain⟨b,hb,hb2⟩:=vA l.Scopes[i]
     grind
   grind
theorem FH{l:GLaw}(hr:∀t∈l.Tables,t.Rows.length<=1125899906842624) (hn:l.Tables.length<=9):∀n,n<=l.Tables.length->0<=xr l n/\xr l n<=1125899906842624*n/\∀i (hi:i<l.Tables.length),i<n->(l.Tables[i].Rows.length:Int)<=xr l n
 |0,_=>by simp[xr]
 |n+1,h=>by
  obtain⟨h1,h2,h3⟩:=FH hr hn n (by omega)
  grind[xr,wid]
theorem SmallL.rows{l:GLaw}(h:SmallL l) (hr:∀t∈l.Tables,t.Rows.length<=1125899906842624):∀t∈l.Tables,t.Rows.length<=150:=by
 intro t ht;obtain⟨i,hi,rfl⟩:=Aaa ht;obtain⟨-,-,a⟩:=FH hr h.nt (i+1) hi;have:=a i hi (by omega);have:=h.rt i hi;omega
def BS(l:GLaw):Prop:=∀s∈l.Scopes,∀r∈s.Rules,(∀n∈r.Guard,Bd n)/\∀n∈r.Value,Bd n
theorem SmallL.ok{l:GLaw}(h:SmallL l) (ht:BS l):LawOk l:=by
 have hne:=h.ne;have hnt:=h.nt;have hns:=h.ns;refine⟨by omega,by omega,by omega,λx hx=>?_,λx hx=>?_,λx hx=>?_⟩
 .obtain⟨a,b,c⟩:=h.e x hx
  grind
 .have:=h.t x hx;omega
 .obtain⟨a,b,c,d,e,f,g⟩:=h.s x hx;refine⟨by omega,⟨by omega,by omega,λr hr=>by grind⟩,by omega,λq hq=>by grind,λq hq=>by grind,λr hr=>?_⟩;have:=g r hr;obtain⟨t1,t2⟩:=ht x hx r hr
  grind
end Go.Proofs.Dev
