/-
  The functions as plain partial functions, and plain lemmas about them: no condition.
-/
import Derived.Test.YtadinajclolmnaaGreatDoorPA
open Option renaming some->M,none->u4
open Decidable renaming decide->D1
open Go.Tm.Ex renaming go->n?,brk->o?,ret->v?
open Bool renaming and_false->Kaj,false_and->Laj,false_eq_true->M',not_false->Κ,not_true->Z?,true_and->X?,true_eq_false->hag,true->a29,false->a30
open ByteArray renaming empty->Faj,mk->z?
open Classical renaming not_forall->eaj,not_imp->waj
open Int renaming natAbs_tdiv->Gaj,reduceBEq->rag,reduceEq->l!,tdiv->I',tdiv_nonneg->Iaj,tmod->S!
open List renaming foldl_cons->Yaf,getElem?_eq_getElem->x!,getElem_mem->E',getElem_of_mem->O',getElem_take->Oai,length_filter_le->Zaf,mem_cons->X',mem_filter->nah,mem_map->V!,mem_of_mem_drop->Iah,mem_singleton->pag,nodup_cons->dah,pairwise_cons->Sag,range->s?,replicate->h!,take_add_one->Ι,length->a00
open Nat renaming add_zero->Hag
open Option renaming bind->e?,bind_some->b?,getD_some->aah,isSome_iff_exists->Pah
open Option.some renaming injEq->M?
set_option linter.all false
namespace Go.Tm
variable {i b:Nat}
variable {α β ρ σ:Type}
theorem m?{n:Int}(h1:-9223372036854775808<=n) (h2:n<9223372036854775808):aa .i64 n=n:=by
 grind[aa,BC]
theorem Ha(h:i<4611686018427387904):aa .i64 ((i:Int)+1)=((i+1:Nat):Int):=by
 grind[m?]
theorem Ma{l:List α}(h:i<a00 l):e! l (i:Int)=M l[i]:=by
 grind[e!]
theorem oab{l:List α}:e! l (i:Int)=l[i]?:=by
 simp[e!]
theorem mn{l:List α}{i:Int}(h1:0<=i) (h2:i<a00 l):e! l i=M (l[i.toNat]' U):=by
 simp_all[e!]
theorem Fad{b:ByteArray}(h:i<b.size):xy b (i:Int)=M (b[i].toNat:Int):=by
 simp_all[xy]
theorem ax{l:List α}(h:i<=a00 l):Rr l (i:Int)=M (l.take i):=by
 simp_all[Rr]
theorem wZ{l:List α}(h:i<=a00 l):jC l (i:Int)=M (l.drop i):=by
 simp_all[jC]
theorem Lf{l r:List α}(h:(a00 l+a00 r)*b<=140737488355328):app b l r=M (l++r):=J U
theorem cD{l:List α}{x:α}(h:i<a00 l):put l (i:Int) x=M (l.set i x):=by
 simp_all[put]
theorem UF{n:Nat}{x:α}(h:n*b<=281474976710656) (h2:n<=4611686018427387904):uz b x (n:Int) (n:Int)=M (h! n x):=by
 grind[uz]
def ff(f:Nat->Option ρ):Nat->Option ρ
 |0=>u4
 |n+1=>match f 0 with|some v=>M v|none=>ff (λi=>f (i+1)) n
theorem Mb{f:Nat->Option ρ}:∀{n:Nat},ff f n=u4↔∀i,i<n->f i=u4
 |0=>by simp[ff]
 |n+1=>by
  simp only[ff];constructor
  .intro h i hi
   cases a:f 0 with
   |some v=>simp_all
   |none=>
    simp only[a]at h
    cases i with
    |zero=>omega
    |succ i=>exact(Mb (f:=λi=>f (i+1))).1 h i U
  .intro h;rw[h 0 U];exact Mb.2 λi hi=>h (i+1) U
theorem Vb{f:Nat->Option ρ}{v:ρ}:∀{n:Nat},ff f n=M v↔∃i,i<n/\f i=M v/\∀j,j<i->f j=u4
 |0=>by simp[ff]
 |n+1=>by
  simp only[ff];constructor
  .intro h
   cases b:f 0 with
   |some w=>grind
   |none=>
    simp only[b]at h;obtain⟨i,c,h2,a⟩:=(Vb (f:=λi=>f (i+1))).1 h;exact⟨i+1,U,h2,λj hj=>by cases j with|zero=>omega|succ j=>simp_all⟩
  .rintro⟨i,c,h2,a⟩
   cases i with
   |zero=>rw[h2]
   |succ i=>
    rw[a 0 U];exact Vb.2 ⟨i,U,h2,λj hj=>a (j+1) U⟩
def Aj(b:β):Option ρ->β⊕ρ
 |none=>.inl b
 |some v=>.inr v
def qL(s:σ):Option ρ->Ex σ β ρ
 |none=>.go s
 |some v=>.ret v
theorem TV{b:β}:Aj b (u4:Option ρ)=.inl b:=rfl
theorem aO0{b:β}{v:ρ}:Aj b (M v)=.inr v:=rfl
def bE4{s:σ}:(qL s (u4:Option ρ):Ex σ β ρ)=.go s:=rfl
def wY{s:σ}{v:ρ}:(qL s (M v):Ex σ β ρ)=.ret v:=rfl
theorem Ji{step:σ->Option (Ex σ β ρ)}{x0:σ}(S:Nat->σ) (f:Nat->Option ρ) (n:Nat) (b:β)
 (e:∀i,i<n->(∀j,j<i->f j=u4)->step (S i)=M (qL (S (i+1)) (f i))) (a:(∀j,j<n->f j=u4)->step (S n)=M (.brk b)) (d:x0=S 0:=by rfl) :
 ja step x0=M (Aj b (ff f n)):=by
 have key:∀k i,i+k=n->(∀j,j<i->f j=u4)->ja step (S i)=M (Aj b (ff (λj=>f (i+j)) k)):=by
  intro k
  induction k with
  |zero=>
   intro i hi hf;rw[Hag]at hi;subst hi;rw[Gb (a hf)];rfl
  |succ k g=>
   intro i hi hf;have c:=e i U hf;simp only[ff,Hag]
   cases d:f i with
   |some v=>
    rw[d]at c;rw[ep c];rfl
   |none=>
    rw[d]at c;rw[Gc c,g (i+1) U λj hj=>s5]
    grind
 simp_all
theorem lf{step:σ->Option (Ex σ β ρ)}{x0:σ}(S:Nat->σ) (n:Nat) (b:β) (hgo:∀i,i<n->step (S i)=M (.go (S (i+1)))) (hend:step (S n)=M (.brk b)) (h0:x0=S 0:=by rfl):ja step x0=M (.inl b):=by
 have key:∀k i,i+k=n->ja step (S i)=M (.inl b):=by
  intro k
  induction k with
  |zero=>simp_all[Gb]
  |succ k ih=>grind[Gc]
 simp_all
theorem sab{l:List α}{p:α->Option Bool}(q:α->Bool) (a:∀x∈l,p x=M (q x)) (hl:l.length<4611686018427387904) :
 ja (λ(s:Int)=>if s<(a00 l:Int)then(e! l s).bind λx=>(p x).bind λc=>if c=a29 then M (v? s)else M (n? (aa .i64 (s+1)))else M (o? ())) 0
  = M (Aj () (ff (λi=>if(l[i]?.any q)=a29 then M (i:Int)else u4) l.length)):=by
 refine Ji (λi=>(i:Int)) _ l.length () (λi hi _=>?_) (λ_=>?_)
 .rw[J,Ma hi,b?,a _ (E' hi),b?,m? U U]
  grind[qL]
 simp
theorem OO{l:List α}{q:α->Bool}{g:Nat->ρ}:(ff (λi=>if(l[i]?.any q)=a29 then M (g i)else u4) l.length).isSome=l.any q:=by
 rw[Bool.eq_iff_iff,Pah,List.any_eq_true];constructor
 .grind[Vb]
 .rintro⟨x,hx,hq⟩;rw[←Pah,←Option.not_isNone,Bool.not_eq_true',Option.isNone_eq_false_iff,Option.isSome_iff_ne_none];intro hn;obtain⟨i,hi,rfl⟩:=O' hx
  grind[Mb]
theorem Ss{l:List α}{p:α->Option Bool}(q:α->Bool) (a:∀x∈l,p x=M (q x)) (hl:l.length<4611686018427387904) {o:Option (Unit⊕Int)}
 (ho:o=ja (λ(s:Int)=>if s<(a00 l:Int)then(e! l s).bind λx=>(p x).bind λc=>if c=a29 then M (v? s)else M (n? (aa .i64 (s+1)))else M (o? ())) 0) :
 ((o.bind λy=>match y with|.inr v=>M v|.inl _=>M (-1)).bind λx=>M (D1 (0<=x)))=M (l.any q):=by
 rw[ho,sab q a hl];rw[←OO (q:=q) (g:=λi=>(i:Int))]
 cases h:ff (λi=>if(l[i]?.any q)=a29 then M (i:Int)else u4) l.length with
 |none=>simp[Aj]
 |some v=>
  grind[Aj,Vb]
end Go.Tm
set_option maxRecDepth 10000
namespace Go.Proofs.Dev
open Go Go.Tm
variable {s:ByteArray}{op:Int}
def aQ1(c:Int):Bool:=D1 (97<=c)&&D1 (c<=122)
def bI4(c:Int):Bool:=D1 (48<=c)&&D1 (c<=57)
def aB0(c:Int):Bool:=aQ1 c || bI4 c || c==95
theorem aW{a b c:Int}:(e? (if a<=c then M (D1 (c<=b))else M a30) λj=>M j)=M (D1 (a<=c)&&D1 (c<=b)):=by
 grind
def rz(c:Int):Kp c=M (aQ1 c):=aW
def oH(c:Int):Qt c=M (bI4 c):=aW
def nG(s:ByteArray) (i:Nat):Bool:=if h:i<s.size then aB0 (s[i].toNat:Int)else a30
def zH(s:ByteArray):Bool:=(ff (λi=>if nG s i=a29 then u4 else M ()) s.size).isNone
theorem TC(hs:s.size<4611686018427387904):∃n,Tk s=M n/\(n=(s.size:Int)↔zH s=a29):=by
 have hstep:∀i:Nat,i<s.size->Td s (i:Int)=M (if nG s i=a29 then .go ((i+1:Nat):Int)else .brk (i:Int)):=by
  intro i hi;unfold Td;rw[J,Fad hi,b?];simp only[rz,oH,b?,nG,dif_pos hi,aB0]
  grind[m?]
 have w1:∀i,(if nG s i=a29 then u4 else M ())=u4->nG s i=a29:=λi h=>by
  simp_all
 unfold Tk
 cases h:ff (λi=>if nG s i=a29 then u4 else M ()) s.size with
 |none=>
  have a:=Mb.1 h;have hl:ja (Td s) 0=M (.inl (s.size:Int)):=lf (λi=>(i:Int)) s.size (s.size:Int)
   (λi hi=>p5) (by grind[Td])
  rw[hl];exact⟨_,rfl,by grind[zH]⟩
 |some v=>
  obtain⟨k,a,h2,h3⟩:=Vb.1 h;have hl:ja (Td s) 0=M (.inl (k:Int)):=lf (λi=>(i:Int)) k (k:Int)
   (λi hi=>s5) (by
    simp_all)
  rw[hl];exact⟨_,rfl,by grind[zH]⟩
theorem aT2{p:Prop} [Decidable p] {b:Bool}:(if p then M a29 else M b)=M (decide p || b):=by
 grind
theorem oW(s:ByteArray):∃b,si s=M b:=by
 unfold si;simp (config := { maxSteps := 4000000 }) only[aT2,b?];simp
noncomputable def aL5(s:ByteArray):Bool:=(si s).getD a30
theorem pW(s:ByteArray):si s=M (aL5 s):=by
 obtain⟨b,h⟩:=oW s
 grind[aL5]
noncomputable def Lu(s:ByteArray):Bool:=if h:0<s.size/\s.size<=16 then aQ1 (s[0].toNat:Int)&&zH s&&!(aL5 s)else a30
theorem BM:s=z? #[]↔s.size=0:=by
 constructor
 .rintro rfl;rfl
 .intro h;obtain⟨a⟩:=s;congr 1;exact Array.eq_empty_of_size_eq_zero h
theorem Jq(b:s.size<4611686018427387904):Sb s=M (Lu s):=by
 obtain⟨n,hn,a⟩:=TC b;unfold Sb Lu;by_cases h0:s.size=0
 .simp_all[BM]
 .have hx:xy s 0=M (s[0].toNat:Int):=Fad (i:=0) U;rw[J (by grind[BM]),hx];simp only[b?,rz,hn,a,pW]
  grind
def Aa(t:ek) (e:List pd):Bool:=
 if t.a=6 then D1 (0<=t.s)&&D1 (t.s<(a00 e:Int))else D1 (1<=t.a)&&D1 (t.a<=5)&&(t.s==0)
noncomputable def vtX(t0:ek) (t1:List pd):Option Bool:=
 if t0.a=6 then
  e? (α:=Bool) (
   if 0<=t0.s then
    M (D1 (t0.s<(a00 t1:Int)))
   else
   M a30) λa=>
  M a
 else
 e? (α:=Bool) (
  if 1<=t0.a then
   if t0.a<=5 then
    M (t0.s==0)
   else
   M a30
  else
  M a30) λb=>
 M b
theorem be7(t:ek) (e:List pd):vtX t e=M (Aa t e):=by
 grind[vtX,Aa]
theorem qc(t:ek) (e:List pd):Hc t e=M (Aa t e):=by
 rw[←be7]
 grind[Hc,vtX]
theorem P0(t:ek) (e:List pd):∃p,Cd t e=M p:=by
 unfold Cd;rw[qc,b?]
 cases h:Aa t e with
 |false=>simp
 |true=>
  simp only[hag,G1]
  repeat' split
  all_goals first|exact⟨_,rfl⟩|skip
  have a:t.a=6:=by
   grind[Aa]
  unfold Aa at h;rw[J a]at h;simp at h;rw[mn h.1 h.2];simp
noncomputable def J7(t:ek) (e:List pd):Int×Int:=(Cd t e).getD (0,0)
theorem Ho(t:ek) (e:List pd):Cd t e=M (J7 t e):=by
 obtain⟨p,hp⟩:=P0 t e
 grind[J7]
noncomputable def K4(n:Int) (t:ek) (e:List pd):Bool:=D1 ((J7 t e).1<=n)&&D1 (n<=(J7 t e).2)
def vrB(r:js):Bool:=D1 (0<=r.r)&&(D1 (r.r<=r.To)&&D1 (r.To<=109573))
theorem ir(r:js):kd r=M (vrB r):=by
 grind[kd,vrB]
def JI(a b:b0):Bool:=vrB a.ai&&vrB b.ai&&D1 (max a.ai.r b.ai.r<min a.ai.To b.ai.To)&&D1 (max a.Lo b.Lo<min a.Hi b.Hi)
theorem iG(a b:b0):Eo a b=M (JI a b):=by
 unfold Eo Xj Pc JI;simp only[ir,b?];cases vrB a.ai<;>cases vrB b.ai<;>simp only[M',G1,B?,b?,Κ,Z?,Laj,X?,Kaj]
 all_goals grind
noncomputable def VW(x:b0) (t:po) (e:List pd):Bool:=
 !(vrB x.ai) || D1 (x.ai.r=x.ai.To) || D1 (x.Hi<=x.Lo) || !(K4 x.Lo t.ap e) || !(K4 (aa .i64 (x.Hi-1)) t.ap e) || !(K4 x.N t.Value e)
noncomputable def VL(t:po) (e:List pd) (i:Nat):Option (Int×Int):=
 match t.Rows[i]? with
 |some x=>if VW x t e=a29 then M ((i:Int),3)else if((t.Rows.take i).any λy=>JI y x)=a29 then M ((i:Int),11)else u4
 |none=>u4
noncomputable def Tu(t:po) (e:List pd):Int×Int:=
 if 64<a00 t.Rows then(64,4)else if(Aa t.ap e&&Aa t.Value e)=a30 then(-1,8)else(ff (VL t e) t.Rows.length).getD (0,0)
theorem wV{l:List b0}{x:b0}(hl:l.length<4611686018427387904):∃p,jc l (λy=>ie y x)=M p/\p.2=l.any λy=>JI y x:=by
 have a:ja (Ob l (λy=>ie y x)) 0=M (Aj () (ff (λi=>if(l[i]?.any λy=>JI y x)=a29 then M ((i:Int),a29)else u4) l.length)):=
  Ji (λi=>(i:Int)) _ l.length () (λi hi _=>by
   unfold Ob;rw[J,Ma hi,x! hi]
   grind[ie,qL,iG,Ha]) (λ_=>by grind[Ob])
 unfold jc;rw[a,←OO (q:=λy=>JI y x) (g:=λi=>((i:Int),a29)),b?]
 cases h:ff (λi=>if(l[i]?.any λy=>JI y x)=a29 then M ((i:Int),a29)else u4) l.length with
 |none=>exact⟨_,rfl,rfl⟩
 |some v=>
  obtain⟨k,h1,h2,-⟩:=Vb.1 h;refine⟨_,rfl,?_⟩
  grind
theorem gG(t:po) (e:List pd):Co t e=M (Tu t e):=by
 unfold Co Tu;by_cases a:64<a00 t.Rows
 .grind
 .rw[s7,s7 a];simp only[qc,Ho,b?];have hl:ja (Lj t (J7 t.ap e) (J7 t.Value e)) 0=M (Aj () (ff (VL t e) t.Rows.length)):=
   Ji (λi=>(i:Int)) _ t.Rows.length () (λi hi _=>by
    unfold Lj VL;rw[J,Ma hi,x! hi];simp only[b?,ir];rw[ax U,Ha U];obtain⟨p,hp,hp2⟩:=wV (l:=t.Rows.take i) (x:=t.Rows[i]) s5
    grind[VW,K4,qL]) (λ_=>by grind[Lj])
  rw[hl];cases Aa t.ap e<;>cases Aa t.Value e<;>simp only[M',G1,B?,b?,Κ,Z?,Laj,X?,Kaj,hag];cases ff (VL t e) t.Rows.length<;>rfl
def pf(op:Int):Int:=
 if(1<=op/\op<=9)\/(35<=op/\op<=39)then 0
 else if op=10\/op=25\/(31<=op/\op<=34)then 1
 else if op=26 then 3
 else if 11<=op/\op<=30 then 2 else -1
theorem cK(h:1<=op/\op<=39):op=1\/op=2\/op=3\/op=4\/op=5\/op=6\/op=7\/op=8\/op=9\/op=10\/op=11\/op=12\/op=13\/op=14\/op=15\/op=16\/op=17\/op=18\/op=19\/op=20\/op=21\/op=22\/op=23\/op=24\/op=25\/op=26\/op=27\/op=28\/op=29\/op=30\/op=31\/op=32\/op=33\/op=34\/op=35\/op=36\/op=37\/op=38\/op=39:=U
theorem wF(h:¬(1<=op/\op<=39)):pf op = -1:=by
 grind[pf]
theorem Zo(op:Int):Rj op=M (pf op):=by
 by_cases h:1<=op/\op<=39
 .rcases cK h with h|h|h|h|h|h|h|h|h|h|h|h|h|h|h|h|h|h|h|h|h|h|h|h|h|h|h|h|h|h|h|h|h|h|h|h|h|h|h<;>subst h<;>simp[Rj,pf]
 .rw[wF h];unfold Rj;have hn:∀k:Int,1<=k->k<=39->¬op=k:=λk h1 h2 he=>h U;simp[hn]
def Vj(op:Int):Bool:=D1 ((1<=op/\op<=8)\/(14<=op/\op<=16)\/(33<=op/\op<=34)\/(36<=op/\op<=39))
theorem Cc(h:1<=op/\op<=39):Un op=M (Vj op):=by
 rcases cK h with h|h|h|h|h|h|h|h|h|h|h|h|h|h|h|h|h|h|h|h|h|h|h|h|h|h|h|h|h|h|h|h|h|h|h|h|h|h|h<;>subst h<;>simp[Un,Vj]
def SL(k:Int):Bool:=k==2 || k==3 || k==4
theorem aq(k:Int):yg k=M (SL k):=by
 grind[yg,SL]
noncomputable def Ld(n:ia) (ops:List ek) (s:ri):Option (ek×Int):=
 e? (α:=Bool) (if¬n.N=0 then(Un n.Op).bind λx=>M (!x)else M a30) λj=>if j=a29 then M ((ek.mk 0 0),2)else Xa n ops s
def Pd(n:ia):Prop:=-9223372036854775808<=n.N/\n.N<=9223372036854775807
theorem fae{n:Int}{k:Int}(hk:1<=k) (h:-9223372036854775808<=n/\n<=9223372036854775807):aa .i64 (I' n k)=I' n k:=by
 have h1:(I' n k).natAbs<=n.natAbs:=by
  rw[Gaj];exact Nat.div_le_self _ _
 by_cases hn:n = -9223372036854775808
 .by_cases a:k=1
  .subst a;subst hn;rfl
  .have:(I' n k).natAbs<n.natAbs:=by
    rw[Gaj];exact Nat.div_lt_self U U
   grind[m?]
 grind[m?]
end Go.Proofs.Dev
set_option maxHeartbeats 1000000
namespace Go.Proofs.Dev
open Go Go.Tm
variable {t a b:ek}{k N op f:Int}{α:Type}{x y:α}{l:List α}{s:ri}{i:Nat}{p:List Int}{n:ia}
theorem zP{e:List pd}(h:Aa t e=a29) (hk:t.a≠6):t.s=0:=by
 simp_all[Aa]
theorem q7{e:List pd}(h1:1<=k) (h2:k<=5):Aa ⟨k,0⟩ e=a29:=by
 grind[Aa]
theorem o7{e:List pd}:Aa ⟨1,0⟩ e=a29:=q7 U U
theorem TW{e:List pd}:Aa ⟨2,0⟩ e=a29:=q7 U U
theorem ad7{e:List pd}:Aa ⟨3,0⟩ e=a29:=q7 U U
theorem aH5{e:List pd}:Aa ⟨4,0⟩ e=a29:=q7 U U
theorem bO5{e:List pd}:Aa ⟨5,0⟩ e=a29:=q7 U U
theorem xJ:(if¬N=0 then(M a29).bind λx=>M (!x)else M a30)=M a30:=p6
theorem mY:(if¬N=0 then(M a30).bind λx=>M (!x)else M a30)=M (!(N==0)):=by
 grind
theorem dH{Q:α->Prop}:(∃r,M x=M r/\Q r)=Q x:=p6
theorem NH(d:α) (h0:0<=N) (h1:N<(a00 l:Int)):e! l N=M ((l[N.toNat]?).getD d):=by
 grind[mn]
theorem ln:e! (x::l) 0=M x:=rfl
theorem EV:e! (x::y::l) 1=M y:=rfl
theorem ar1{z:α}:e! (x::y::z::l) 2=M z:=rfl
theorem bR2{u:Bool}(hm:Un op=M u) (h1:Xa ⟨op,N⟩ [a,b] s=(Kb op [a,b]).bind λx=>if x.2=a30 then M (⟨0,0⟩,8)else M (x.1,0)) {ok:Bool}
 (hd:Kb op [a,b]=M (t,ok)) (hu:u=a29\/N=0):Ld ⟨op,N⟩ [a,b] s=M (if ok=a29 then(t,0)else(⟨0,0⟩,8)):=by
 unfold Ld
 grind
def th(e:List ia) (i:Nat):ia:=(e[i]?).getD ⟨0,0⟩
theorem Sw{e:List ia}(h:i<a00 e):e[i]=th e i:=by
 grind[th]
def xl(e:List ia):Nat->List Int×List Int
 |0=>([],[])
 |i+1=>
  let p:=xl e i
  let a:=(pf (th e i).Op).toNat
  let f:=if 0<a then(p.2[a00 p.2-a]?).getD 0 else(i:Int)
  (p.1++[f],p.2.take (a00 p.2-a)++[f])
theorem ZH(e:List ia):∀i,(xl e i).1.length=i
 |0=>rfl
 |i+1=>by simp[xl,ZH e i]
def XD(e:List ia) (i:Nat):Option (List Int×Int×Int):=
 if pf (th e i).Op<0 then M ([],(i:Int),2)
 else if((xl e i).2.length:Int)<pf (th e i).Op then M ([],(i:Int),5)
 else if 12<(xl e (i+1)).2.length then M ([],(i:Int),16)else u4
def Qr(e:List ia):List Int×Int×Int:=
 if 48<a00 e then([],0,4)else if e.length=0 then([],0,5)
 else match ff (XD e) e.length with
  |some v=>v
  |none=>if 1<(xl e e.length).2.length then([],(a00 e:Int),4)else((xl e e.length).1,0,0)
theorem AB{e:List ia}(h:∀j,j<i->XD e j=u4):(xl e i).2.length<=12:=by
 cases i with
 |zero=>simp[xl]
 |succ i=>
  have:=h i U
  grind[XD]
theorem ai3{n:Nat}(hp:p.length=i) (h:i<n):(p++h! (n-i) 0).set i f=p++[f]++h! (n-(i+1)) 0:=by
 obtain⟨k,hk⟩:∃k,n-i=k+1:=⟨n-i-1,U⟩;have hk':n-(i+1)=k:=U
 simp_all[List.replicate_succ]
theorem vY{r:List Int}(hp:p.length=i):(p++[f]++r)[i]?=M f:=by
 simp_all
theorem ft(e:List ia):Ik e=M (Qr e):=by
 unfold Ik Qr;by_cases g:48<a00 e
 .grind
 rw[s7,s7 g];by_cases j:e.length=0
 .simp_all
 rw[s7,s7 j,UF U U,b?];have hl:ja (pj e) (h! e.length 0,([]:List Int),0)=M (Aj ((xl e e.length).1,(xl e e.length).2) (ff (XD e) e.length)):=by
  refine Ji (λi=>((xl e i).1++h! (a00 e-i) 0,(xl e i).2,(i:Int))) (XD e) e.length _ (λi hi hf=>?_) (λ_=>?_) ?_
  .have hs:=AB hf;have hl:=ZH e i;unfold pj XD;simp only;rw[J,Ma hi,b?,Sw hi,Zo,b?];by_cases ha:pf (th e i).Op<0
   .rw[J ha,J ha];rfl
   rw[s7 ha,s7 ha];by_cases hb:((xl e i).2.length:Int)<pf (th e i).Op
   .rw[J hb,J hb];rfl
   rw[s7 hb,s7 hb];obtain⟨a,c⟩:∃a:Nat,pf (th e i).Op=a:=⟨(pf (th e i).Op).toNat,U⟩;have h:xl e (i+1)=((xl e i).1++[if 0<a then((xl e i).2[(xl e i).2.length-a]?).getD 0 else(i:Int)],(xl e i).2.take ((xl e i).2.length-a)++[if 0<a then((xl e i).2[(xl e i).2.length-a]?).getD 0 else(i:Int)]):=by
    grind[xl]
   have f:aa .i64 (((xl e i).2.length:Int)-(a:Int))=(((xl e i).2.length-a:Nat):Int):=by
    grind[m?]
   rw[c,h,f];generalize hS:(xl e i).2=sk at *;generalize (xl e i).1=st at *;rw[c]at hb;rw[Ma (i:=i) s5,b?,cD s5,b?,ai3 hl hi,ax U];by_cases b:0<a
   .have hk:sk.length-a<a00 sk:=U
    rw[J,J b,Ma hk,b?,Ma (i:=i) p5,b?,cD p5,b?];have d:(st++[(i:Int)]++h! (a00 e-(i+1)) 0).set i sk[a00 sk-a]=st++[sk[a00 sk-a]]++h! (a00 e-(i+1)) 0:=by
     simp_all
    rw[d,b?,b?,x! hk,aah,oab,vY hl,b?];rw[Lf s5,b?];by_cases hd:12<(sk.take (a00 sk-a)++[sk[a00 sk-a]]).length
    .grind
    .rw[s7,s7 hd,Ha U];rfl
   .rw[s7,s7 b,b?,b?,oab,vY hl,b?];rw[Lf s5,b?];by_cases hd:12<(sk.take (a00 sk-a)++[(i:Int)]).length
    .rw[J,J hd];rfl
    .rw[s7,s7 hd,Ha U];rfl
  all_goals grind[pj,xl]
 grind[Aj]
def fF(n:ia) (ops:List ek) (s:ri):Prop:=∃r,Ld n ops s=M r/\(r.2=0->Aa r.1 s.z=a29)
theorem bac(hk:1<=k/\k<=5) (hn:n.Op=k):fF n [] s:=by
 have hu:=Cc (op:=n.Op) U;have hus:Vj n.Op=a29:=by grind[Vj]
 have hv:Aa ⟨n.Op,0⟩ s.z=a29:=q7 U U;have a:Ld n [] s=M (if(J7 ⟨n.Op,0⟩ s.z).1<=n.N/\n.N<=(J7 ⟨n.Op,0⟩ s.z).2 then(⟨n.Op,0⟩,0)else(⟨0,0⟩,3)):=by
  grind[Ye,Xa,Ld,Ho]
 refine⟨_,a,?_⟩
 grind
theorem aP0(hN:Pd ⟨6,N⟩):fF ⟨6,N⟩ [] s:=by
 have w:=fae (n:=N) (k:=16) U hN;have hu:=Cc (op:=6) U;have c:Vj 6=a29:=rfl;unfold fF Ld Xa Ot;simp only[w,hu,c,xJ];by_cases a:0<=N
 .have hd:0<=I' N 16:=Iaj a U;by_cases b:I' N 16<(a00 s.z:Int)
  .rw[NH ⟨Faj,[]⟩ hd b];have hv:Aa ⟨6,I' N 16⟩ s.z=a29:=by grind[Aa]
   generalize (s.z[(I' N 16).toNat]?).getD ⟨Faj,[]⟩=m;have e1:¬N<0:=U
   have e2:¬(a00 s.z:Int)<=I' N 16:=U
   by_cases h2:S! N 16<(a00 m.w:Int)
   .have e3:¬(a00 m.w:Int)<=S! N 16:=U
    simp[a,b,h2,hv,e1,e2,e3,dH,-Prod.exists]
   .have e3:(a00 m.w:Int)<=S! N 16:=U
    simp[a,b,h2,hv,e1,e2,e3,dH,-Prod.exists]
  .have e1:¬N<0:=U
   have e2:(a00 s.z:Int)<=I' N 16:=U
   simp[a,b,e1,e2,dH,-Prod.exists]
 simp_all
theorem aO9:fF ⟨7,N⟩ [] s:=by
 have hu:=Cc (op:=7) U;have a:Vj 7=a29:=rfl;unfold fF Ld Xa He;simp only[hu,a,qc,xJ];by_cases b:0<=N
 .have e1:¬N<0:=U
  by_cases c:N<(a00 s.ad:Int)
  .rw[NH ⟨0,0⟩ b c];generalize (s.ad[N.toNat]?).getD ⟨0,0⟩=t;obtain⟨e,d⟩:=t;have e2:¬(a00 s.ad:Int)<=N:=U
   cases hv:Aa ⟨e,d⟩ s.z<;>simp[b,c,hv,e1,e2,dH,-Prod.exists]
  simp_all
 simp_all
theorem aO8:fF ⟨8,N⟩ [] s:=by
 have hu:=Cc (op:=8) U;have a:Vj 8=a29:=rfl;unfold fF Ld Xa He;simp only[hu,a,qc,xJ];by_cases b:0<=N
 .have e1:¬N<0:=U
  by_cases c:N<(a00 s.f:Int)
  .rw[NH ⟨0,0⟩ b c];generalize (s.f[N.toNat]?).getD ⟨0,0⟩=t;obtain⟨e,d⟩:=t;have e2:¬(a00 s.f:Int)<=N:=U
   cases hv:Aa ⟨e,d⟩ s.z<;>simp[b,c,hv,e1,e2,dH,-Prod.exists]
  simp_all
 simp_all
theorem aO7:fF ⟨9,N⟩ [] s:=by
 have hu:=Cc (op:=9) U;have a:Vj 9=a30:=rfl;unfold fF Ld Xa;simp only[hu,a,mY];cases N==0<;>simp[bO5,dH,-Prod.exists]
theorem ao1:fF ⟨35,N⟩ [] s:=by
 have hu:=Cc (op:=35) U;have a:Vj 35=a30:=rfl;unfold fF Ld Xa Wi;simp only[hu,a,mY];cases hm:s.bg<;>cases N==0<;>simp[TW,dH,-Prod.exists]
theorem cac(h:36<=op/\op<=39):fF ⟨op,N⟩ [] s:=by
 have hu:=Cc (op:=op) U;have e:Vj op=a29:=by grind[Vj]
 unfold fF Ld Xa Wi He;simp only[hu,e,qc,aq,xJ];cases c:s.bg
 .rcases(by omega:op=36\/op=37\/op=38\/op=39)with h|h|h|h<;>subst h<;>simp[c,dH,-Prod.exists]
 .by_cases b:0<=N
  .have e1:¬N<0:=U
   by_cases d:N<(a00 s.a8:Int)
   .rw[NH ⟨0,0⟩ b d];generalize (s.a8[N.toNat]?).getD ⟨0,0⟩=t;obtain⟨a,i⟩:=t;have e2:¬(a00 s.a8:Int)<=N:=U
    cases hv:Aa ⟨a,i⟩ s.z
    .rcases(by omega:op=36\/op=37\/op=38\/op=39)with h|h|h|h<;>subst h<;>simp[c,b,d,hv,e1,e2,dH,-Prod.exists]
    .rcases(by omega:op=36\/op=37\/op=38\/op=39)with h|h|h|h<;>subst h<;>simp only[c,b,d,hv,e1,e2,b?,B?,G1,not_true_eq_false,aaE,ο,ι,M',hag,l!,beq_self_eq_true,rag]
     .by_cases g:a=2<;>by_cases k3:a=3<;>simp[g,k3,hv,dH,-Prod.exists]<;>simp_all
     .by_cases f:a=1<;>simp[f,hv,dH,-Prod.exists]<;>simp_all
     .by_cases f:a=1<;>simp[f,hv,dH,-Prod.exists]<;>simp_all
     .cases SL a<;>by_cases k5:a=5<;>simp[k5,hv,dH,-Prod.exists]<;>simp_all
   .have e2:(a00 s.a8:Int)<=N:=U
    rcases(by omega:op=36\/op=37\/op=38\/op=39)with h|h|h|h<;>subst h<;>simp[c,b,d,e1,e2,dH,-Prod.exists]
  .have e1:N<0:=U
   rcases(by omega:op=36\/op=37\/op=38\/op=39)with h|h|h|h<;>subst h<;>simp[c,b,e1,dH,-Prod.exists]
theorem dac(d:op=10\/op=25\/op=31\/op=32) (ha:Aa a s.z=a29):fF ⟨op,N⟩ [a] s:=by
 have hu:=Cc (op:=op) U;have e:Vj op=a30:=by grind[Vj]
 unfold fF Ld Xa Kb;simp only[hu,e,mY,aq];obtain⟨c,ae⟩:=a;rcases d with h|h|h|h<;>subst h<;>cases N==0
 .simp
 .cases hn:SL c<;>simp[ln,hn,ha,dH,-Prod.exists]
 .simp
 .by_cases b:c=1
  .subst b;have:=zP ha p6
   simp_all[ln]
  simp_all[ln]
 .simp
 .by_cases b:c=5<;>simp[ln,b,TW,dH,-Prod.exists]
 .simp
 .by_cases b:c=5<;>simp[ln,b,TW,dH,-Prod.exists]
theorem ao3(ha:Aa a s.z=a29):fF ⟨33,N⟩ [a] s:=by
 have hu:=Cc (op:=33) U;have d:Vj 33=a29:=rfl;unfold fF Ld Xa Vn;simp only[hu,d,qc,xJ];by_cases b:0<=N
 .have e1:¬N<0:=U
  by_cases c:N<(a00 s.Tables:Int)
  .obtain⟨t,ht⟩:∃t,e! s.Tables N=M t:=⟨_,mn b c⟩;have e2:¬(a00 s.Tables:Int)<=N:=U
   cases hk:Aa t.ap s.z
   .simp[ln,ht,b,c,e1,e2,hk,dH,-Prod.exists]
   .cases hv:Aa t.Value s.z
    .simp[ln,ht,b,c,e1,e2,hk,hv,dH,-Prod.exists]
    .by_cases e:a.a=t.ap.a<;>by_cases f:a.s=t.ap.s<;>simp[ln,ht,b,c,e1,e2,hk,hv,e,f,dH,-Prod.exists]
  simp_all[ln]
 .have e1:N<0:=U
  have e3:¬N<(a00 s.Tables:Int)\/N<(a00 s.Tables:Int):=U
  simp[ln,b,e1,dH,-Prod.exists]
theorem ao2(hN:Pd ⟨34,N⟩) (ha:Aa a s.z=a29):fF ⟨34,N⟩ [a] s:=by
 have hu:=Cc (op:=34) U;have j:Vj 34=a29:=rfl;have w:=fae (n:=N) (k:=8) U hN;unfold fF Ld Xa Vn Jk;simp only[hu,j,qc,xJ,w];by_cases g:0<=N
 .have e1:¬N<0:=U
  have hd:0<=I' N 8:=Iaj g U;have d:0<=S! N 8:=Int.tmod_nonneg _ g;have e3:¬I' N 8<0:=U
  by_cases v:S! N 8<=5
  .by_cases u:I' N 8<(a00 s.Tables:Int)
   .obtain⟨t,ht⟩:∃t,e! s.Tables (I' N 8)=M t:=⟨_,mn hd u⟩;have e2:¬(a00 s.Tables:Int)<=I' N 8:=U
    obtain⟨_,⟨o,m⟩,⟨q,p⟩,_⟩:=t;obtain⟨f,r⟩:=a;simp only[ln,ht,g,u,e1,e2,e3,d,v,b?,B?,G1,not_true_eq_false,aaE,ο,ι,M',hag,l!,beq_self_eq_true,rag,Z?,Κ];by_cases h:o=3
    .subst h;by_cases i:m=0
     .subst i;rw[show Aa ⟨3,0⟩ s.z=a29 from ad7];by_cases e:q=4
      .subst e;by_cases l:p=0
       .subst l;rw[show Aa ⟨4,0⟩ s.z=a29 from aH5];by_cases b:f=3
        .subst b;have:=zP ha p6
         simp_all
        simp_all
       simp_all[Aa]
      .cases Aa ⟨q,p⟩ s.z<;>by_cases b:f=3<;>by_cases c:r=0<;>simp[b,c,e,dH,-Prod.exists]
     simp_all[Aa]
    .cases Aa ⟨o,m⟩ s.z<;>cases Aa ⟨q,p⟩ s.z<;>by_cases b:f=3<;>by_cases hak:f=o<;>by_cases c:r=m<;>simp_all[dH,-Prod.exists]
   simp_all[ln]
  simp_all[ln]
 simp_all[ln]
theorem ao4{c:ek}(hb:Aa b s.z=a29):fF ⟨26,N⟩ [a,b,c] s:=by
 have hu:=Cc (op:=26) U;have d:Vj 26=a30:=rfl;unfold fF Ld Xa Kb;simp only[hu,d,mY];obtain⟨bk,be⟩:=b;cases N==0
 .simp
 .by_cases e:a.a=1<;>by_cases f:bk=c.a<;>by_cases k3:be=c.s<;>simp[ln,EV,ar1,e,f,k3,dH,-Prod.exists]
  simp_all
theorem ae3(hop:(11<=op/\op<=24)\/(27<=op/\op<=30)) {ok:Bool}{t':ek}(d:Kb op [a,b]=M (t',ok)) (ht:ok=a29->Aa t' s.z=a29) :
 fF ⟨op,N⟩ [a,b] s:=by
 have hu:=Cc (op:=op) U;have hr:(14<=op/\op<=16)/\Xa ⟨op,N⟩ [a,b] s=(if(D1 (0<=N)&&D1 (N<=5))=a29 then(Kb op [a,b]).bind λx=>if x.2=a30 then M (⟨0,0⟩,8)else M (x.1,0)else M (⟨0,0⟩,3))\/
  ¬(14<=op/\op<=16)/\Xa ⟨op,N⟩ [a,b] s=((Kb op [a,b]).bind λx=>if x.2=a30 then M (⟨0,0⟩,8)else M (x.1,0)):=by
  clear d ht hu;by_cases h:14<=op/\op<=16
  .refine .inl ⟨h,?_⟩
   .unfold Xa Jk;simp only[aW];rcases(by omega:op=14\/op=15\/op=16)with h|h|h<;>subst h<;>by_cases g1:0<=N<;>by_cases g2:N<=5<;>simp[g1,g2]
  .refine .inr ⟨h,?_⟩
   .unfold Xa;rcases(by omega:op=11\/op=12\/op=13\/op=17\/op=18\/op=19\/op=20\/op=21\/op=22\/op=23\/op=24\/op=27\/op=28\/op=29\/op=30)with h|h|h|h|h|h|h|h|h|h|h|h|h|h|h<;>subst h<;>simp
 have fin:∀(e:Vj op=a29\/N=0),Xa ⟨op,N⟩ [a,b] s=((Kb op [a,b]).bind λx=>if x.2=a30 then M (⟨0,0⟩,8)else M (x.1,0))->fF ⟨op,N⟩ [a,b] s:=by
  intro e h2;unfold fF;rw[bR2 hu h2 d e]
  grind
 rcases hr with⟨h,h2⟩|⟨h,h2⟩
 .have c:Vj op=a29:=by grind[Vj]
  by_cases hN:(D1 (0<=N)&&D1 (N<=5))=a29
  .simp_all
  .rw[Bool.not_eq_true]at hN;rw[hN,s7 p6]at h2;unfold fF Ld
   simp_all
 .have c:Vj op=a30:=by grind[Vj]
  by_cases hN:N=0
  .simp_all
  .unfold fF Ld
   simp_all
theorem eac(hop:(11<=op/\op<=24)\/(27<=op/\op<=30)) (ha:Aa a s.z=a29):fF ⟨op,N⟩ [a,b] s:=by
 have i:∀k,1<=k->k<=5->a.a=k->a.s=0:=λk g h2 h=>zP ha U;obtain⟨d,f⟩:=a;obtain⟨bk,be⟩:=b;simp only at i;have hr:∃t' ok,Kb op [⟨d,f⟩,⟨bk,be⟩]=M (t',ok)/\(ok=a29->Aa t' s.z=a29):=by
  unfold Kb bp;simp only[ln,EV,aq];rcases(by omega:op=11\/op=12\/op=13\/op=14\/op=15\/op=16\/op=17\/op=18\/op=19\/op=20\/op=21\/op=22\/op=23\/op=24\/op=27\/op=28\/op=29\/op=30)with h|h|h|h|h|h|h|h|h|h|h|h|h|h|h|h|h|h<;>subst h
  .by_cases c:d=bk/\f=be
   .cases hn:SL d<;>simp[c,hn,ha]
    all_goals grind
   .simp[c]
  .by_cases c:d=bk/\f=be
   .cases hn:SL d<;>simp[c,hn,ha]
    all_goals grind
   .simp[c]
  .by_cases c:bk=2<;>by_cases e:d=2<;>by_cases k3:d=3<;>simp[c,e,k3,TW,ad7]
  .by_cases c:bk=4<;>by_cases e:d=3<;>by_cases k3:d=4<;>simp[c,e,k3,aH5,ad7]
  .by_cases c:bk=2<;>by_cases e:d=2<;>by_cases k3:d=3<;>by_cases k4:bk=3<;>simp[c,e,k3,k4,TW,ad7,aH5]
   all_goals simp_all
  .by_cases c:d=3<;>by_cases e:bk=3<;>simp[c,e]
   simp_all
  .by_cases c:d=bk/\f=be
   .cases hn:SL d<;>by_cases k5:d=5<;>simp[c,hn,k5,ha]
    all_goals grind
   .simp[c]
  .by_cases c:d=bk/\f=be
   .cases hn:SL d<;>by_cases k5:d=5<;>simp[c,hn,k5,ha]
    all_goals grind
   .simp[c]
  .by_cases c:d=bk<;>by_cases e:f=be<;>simp[c,e,o7]
  .by_cases c:d=bk<;>by_cases e:f=be<;>simp[c,e,o7]
  .by_cases c:d=bk/\f=be
   .cases hn:SL d<;>by_cases k5:d=5<;>simp[c,hn,k5,o7]
    all_goals grind[o7]
   .simp[c]
  .by_cases c:d=bk/\f=be
   .cases hn:SL d<;>by_cases k5:d=5<;>simp[c,hn,k5,o7]
    all_goals grind[o7]
   .simp[c]
  .by_cases c:d=1<;>by_cases e:bk=1<;>simp[c,e]
   grind
  .by_cases c:d=1<;>by_cases e:bk=1<;>simp[c,e]
   grind
  .by_cases c:d=5<;>by_cases e:bk=2<;>simp[c,e]
   simp_all
  .by_cases c:d=5<;>by_cases e:bk=2<;>simp[c,e]
   simp_all
  .by_cases c:d=5<;>by_cases e:bk=5<;>simp[c,e,TW]
  .by_cases c:d=5<;>by_cases e:bk=5<;>simp[c,e,TW]
 obtain⟨t',ok,g,h3⟩:=hr
 grind[ae3]
theorem XY{ops:List ek}(e:1<=n.Op/\n.Op<=39) (hN:Pd n) (d:(a00 ops:Int)=pf n.Op) (hv:∀t∈ops,Aa t s.z=a29):fF n ops s:=by
 obtain⟨op,N⟩:=n;simp only at e d;unfold pf at d;by_cases f:(1<=op/\op<=9)\/(35<=op/\op<=39)
 .rw[J f]at d;obtain rfl:ops=[]:=List.eq_nil_of_length_eq_zero U;rcases(by omega:(1<=op/\op<=5)\/op=6\/op=7\/op=8\/op=9\/op=35\/(36<=op/\op<=39))with h|h|h|h|h|h|h
  .exact bac h rfl
  all_goals grind[aP0,aO9,aO8,aO7,ao1,cac]
 rw[s7 f]at d;by_cases g:op=10\/op=25\/(31<=op/\op<=34)
 .rw[J g]at d;obtain⟨a,rfl⟩:∃a,ops=[a]:=by
   match ops,d with
   |[a],_=>simp
  have ha:=hv a p6;rcases(by omega:(op=10\/op=25\/op=31\/op=32)\/op=33\/op=34)with h|h|h
  all_goals grind[dac,ao3,ao2]
 rw[s7 g]at d;by_cases h2:op=26
 .rw[J h2]at d;obtain⟨a,b,c,rfl⟩:∃a b c,ops=[a,b,c]:=by
   match ops,d with
   |[a,b,c],_=>simp
  grind[ao4]
 rw[s7 h2,J]at d;obtain⟨a,b,rfl⟩:∃a b,ops=[a,b]:=by
  match ops,d with
  |[a,b],_=>simp
 grind[eac]
def Gn(e:List ia) (i:Nat):Nat:=(pf (th e i).Op).toNat
noncomputable def rK(e:List ia) (s:ri) (st:List ek) (i:Nat):ek×Int:=(Ld (th e i) (st.drop (a00 st-Gn e i)) s).getD (⟨0,0⟩,0)
noncomputable def kC(e:List ia) (s:ri):Nat->List ek
 |0=>[]
 |i+1=>(kC e s i).take ((kC e s i).length-Gn e i)++[(rK e s (kC e s i) i).1]
noncomputable def SK(e:List ia) (s:ri) (i:Nat):Option (ek×Int×Int):=
 if(rK e s (kC e s i) i).2=0 then u4 else M (⟨0,0⟩,(i:Int),(rK e s (kC e s i) i).2)
noncomputable def xz(e:List ia) (s:ri):ek×Int×Int:=
 if(Qr e).2.2=0 then(match ff (SK e s) e.length with|some v=>v|none=>((kC e s e.length)[0]?.getD ⟨0,0⟩,0,0))else(⟨0,0⟩,(Qr e).2.1,(Qr e).2.2)
structure Wst (e:List ia):Prop where
 pos:0<a00 e
 le:e.length<=48
 err:∀i,i<a00 e->XD e i=u4
 one:(xl e e.length).2.length<=1
variable {e:List ia}
theorem CP(h:(Qr e).2.2=0):Wst e:=by
 unfold Qr at h;split at h
 .grind
 split at h
 .grind
 rename_i h48 h0;split at h
 .grind[XD,Vb]
 .rename_i hn;split at h
  .grind
  .exact⟨U,U,Mb.1 hn,U⟩
theorem Wst.ar(h:Wst e) (hi:i<a00 e):0<=pf (th e i).Op/\Gn e i<=(xl e i).2.length/\(1<=(th e i).Op/\(th e i).Op<=39):=by
 have:=h.err i hi
 grind[XD,Gn,wF]
theorem gT:(xl e (i+1)).2.length=(xl e i).2.length-Gn e i+1:=by
 simp[xl,Gn]
theorem aP2(hN:∀n∈e,Pd n) (hi:i<a00 e):Pd (th e i):=by
 rw[←Sw hi];simp_all
theorem fI{e:List ia}{s:ri}(h:Wst e) (hN:∀n∈e,Pd n):∀i,i<=a00 e->(∀j,j<i->SK e s j=u4)->(kC e s i).length=(xl e i).2.length/\∀t∈kC e s i,Aa t s.z=a29
 |0,_,_=>by simp[kC,xl]
 |i+1,hi,ht=>by
  obtain⟨h1,h2⟩:=fI h hN i U λj hj=>ht j U;obtain⟨a1,a2,a3⟩:=h.ar (i:=i) U;refine⟨by grind[kC,gT],?_⟩;intro t hm;simp only[kC,List.mem_append,pag]at hm;rcases hm with hm|rfl
  .grind
  .obtain⟨r,hr,hv⟩:=XY (n:=th e i) (ops:=(kC e s i).drop ((kC e s i).length-Gn e i)) (s:=s) a3 (aP2 hN U) (by grind[Gn]) (λt ht=>h2 t (Iah ht));have hz:=ht i U
   grind[SK,rK]
theorem vS(h:Wst e) (hN:∀n∈e,Pd n) (hi:i<a00 e) (ht:∀j,j<i->SK e s j=u4) :
 Ld (th e i) ((kC e s i).drop ((kC e s i).length-Gn e i)) s=M (rK e s (kC e s i) i):=by
 obtain⟨h1,h2⟩:=fI h hN i U ht;obtain⟨a1,a2,a3⟩:=h.ar hi;obtain⟨r,hr,hv⟩:=XY (n:=th e i) (ops:=(kC e s i).drop ((kC e s i).length-Gn e i)) (s:=s) a3 (aP2 hN hi) (by grind[Gn]) (λt ht=>h2 t (Iah ht))
 grind[rK]
theorem JL(hN:∀n∈e,Pd n) (s:ri):nu e s=M (xz e s):=by
 unfold nu xz;rw[ft,b?];by_cases f:(Qr e).2.2=0
 .rw[s7,J f];have hw:=CP f;have hl:ja (Tn e s) (([]:List ek),0)=M (Aj (kC e s e.length) (ff (SK e s) e.length)):=by
   refine Ji (λi=>(kC e s i,(i:Int))) (SK e s) e.length _ (λi hi ht=>?_) (λ_=>?_)
   .have a:=vS hw hN hi ht;obtain⟨g,h2⟩:=fI hw hN i U ht;obtain⟨a1,a2,a3⟩:=hw.ar hi;have hle:=hw.le;have h12:=AB (e:=e) (i:=i) λj hj=>hw.err j U;unfold Tn SK;simp only;have b:aa .i64 (((kC e s i).length:Int)-pf (th e i).Op)=(((kC e s i).length-Gn e i:Nat):Int):=by
     grind[Gn,m?]
    rw[J,Ma hi,b?,Sw hi];unfold Ld at a;rw[Cc a3]at a⊢;have hj:(if¬(th e i).N=0 then(M (Vj (th e i).Op)).bind λh=>M (!h)else M a30)=M (!(th e i).N==0&&!Vj (th e i).Op):=by
     grind
    rw[hj]at a⊢;rw[b?]at a⊢;generalize (!(th e i).N==0&&!Vj (th e i).Op)=c at a⊢;cases c
    .rw[s7 p6]at a⊢;rw[Zo,b?,b,wZ U,b?,a,b?];by_cases d:(rK e s (kC e s i) i).2=0
     .rw[s7,J d,ax U,b?,Lf s5,b?,Ha U];rfl
     .rw[J d,s7 d];rfl
    .rw[J rfl]at a⊢;injection a with a;rw[←a,s7 s6];rfl
   grind[Tn]
  rw[hl]
  cases hf:ff (SK e s) e.length with
  |some v=>rfl
  |none=>
   obtain⟨g,h2⟩:=fI (s:=s) hw hN e.length U (Mb.1 hf);have:0<(kC e s e.length).length:=by
    rw[g];obtain⟨k,hk⟩:∃k,a00 e=k+1:=⟨a00 e-1,by have:=hw.pos;omega⟩
    grind[gT]
   simp only[Aj,b?];rw[show(0:Int)=((0:Nat):Int)from rfl,Ma this,b?,x! this];rfl
 simp_all
end Go.Proofs.Dev
namespace Go.Tm
theorem wA{x n:Int}:∀{l:List Int},x∈Wy l n↔x∈l\/x=n
 |[]=>by simp[Wy]
 |y::l=>by
  simp only[Wy];split
  .grind
  .simp only[X',wA (l:=l)];grind
abbrev UT(l:List Int):Prop:=l.Pairwise (·<·)
theorem FJ{n:Int}:∀{l:List Int},UT l->UT (Wy l n)
 |[],_=>by simp[Wy]
 |y::l,h=>by
  have b:=Sag.1 h;simp only[Wy];split
  .split
   .refine Sag.2 ⟨λz a=>?_,h⟩
    grind
   omega
  .refine Sag.2 ⟨λz a=>?_,FJ b.2⟩;rcases wA.1 a with a|rfl
   all_goals simp_all
theorem YR{n:Int}:∀{l:List Int},(Wy l n).length<=a00 l+1
 |[]=>by simp[Wy]
 |y::l=>by
  simp only[Wy];split
  .grind
  .have:=YR (n:=n) (l:=l);simp_all
def PJ{α A β ρ:Type}{step:A×Int->Option (Ex (A×Int) β ρ)}(xs:List α) (f:A->α->A) (a0:A) (b:β) {x0:A×Int}(hx:x0=(a0,0))
 (hgo:∀(i:Nat) (hi:i<a00 xs),step ((xs.take i).foldl f a0,(i:Int))=M (.go (f ((xs.take i).foldl f a0) xs[i],((i+1:Nat):Int)))) (hend:step (xs.foldl f a0,(a00 xs:Int))=M (.brk b)) :
 ja step x0=M (.inl b):=by
 refine lf (λi=>((xs.take i).foldl f a0,(i:Int))) xs.length b (λi hi=>?_) ?_ p5
 all_goals grind[Ι]
end Go.Tm
namespace Go.Proofs.Dev
open Go Go.Tm
end Go.Proofs.Dev
namespace Go.Tm
theorem Nh(l:List Int):UT (ph l)/\(ph l).length<=a00 l/\∀x,x∈ph l↔x∈l:=by
 have key:∀(l a:List Int),UT a->UT (l.foldl Wy a)/\(l.foldl Wy a).length<=a00 a+a00 l/\∀x,x∈l.foldl Wy a↔x∈a\/x∈l:=by
  intro l
  induction l with
  |nil=>simp
  |cons y l d=>
   intro a h;obtain⟨b,h2,c⟩:=d (Wy a y) (FJ h);have:=YR (n:=y) (l:=a);refine⟨b,s5,λx=>?_⟩
   simp_all[Yaf,wA,X',or_assoc]
 obtain⟨b,h2,c⟩:=key l [] p6
 grind[ph]
theorem PH{lo hi:Int}:∀{a:List Int},UT a->(∀x∈a,lo<=x/\x<hi)->a.length<=(hi-lo).toNat
 |[],_,_=>p6
 |x::a,h,hb=>by
  have b:=Sag.1 h;have hx:=hb x p6;have:=PH (lo:=x+1) (hi:=hi) b.2 λy hy=>⟨s5,(hb y s5).2⟩
  grind
theorem OH:∀{a b:List Int},UT a->UT b->(∀x,x∈a↔x∈b)->a=b
 |[],[],_,_,_=>rfl
 |[],y::b,_,_,h=>by have:=(h y).2 p6;simp_all
 |x::a,[],_,_,h=>by have:=(h x).1 p6;simp_all
 |x::a,y::b,ha,hb,h=>by
  have c:=Sag.1 ha;have d:=Sag.1 hb;have e:x=y:=by
   have h1:=(h x).1 p6;have h2:=(h y).2 p6
   grind
  subst e;rw[OH c.2 d.2 λz=>?_]
  grind
end Go.Tm
namespace Go.Proofs.Dev
open Go Go.Tm
variable {p:ia->Bool}{e:List ia}{l a:List Int}{x n d:Int}
def jF(p:ia->Bool) (e:List ia):List Int:=ph ((e.filter p).map (·.N))
theorem aB:(jF p e).length<=a00 e:=by
 grind[jF,Nh,Zaf]
def O4(n:ia):Bool:=n.Op==7
def Cl(n:ia):Bool:=n.Op==8
def my(n:ia):Bool:=n.Op==36 || n.Op==37 || n.Op==38 || n.Op==39
def WG(e:List ia):List Int×List Int×List Int:=(jF O4 e,jF Cl e,jF my e)
theorem OH:∀{a b:List Int},UT a->UT b->(∀x,x∈a↔x∈b)->a=b
 |[],[],_,_,_=>rfl
 |[],y::b,_,_,h=>by have:=(h y).2 p6;simp_all
 |x::a,[],_,_,h=>by have:=(h x).1 p6;simp_all
 |x::a,y::b,ha,hb,h=>by
  obtain⟨ha1,c⟩:=Sag.1 ha;obtain⟨hb1,d⟩:=Sag.1 hb;have e:x=y:=by
   have h1:=(h x).1 p6;have h2:=(h y).2 p6
   grind
  subst e;rw[OH c d λz=>?_]
  grind
theorem Vz{d:Array Int}(k:∀i j,i<j->j<d.size->d[i]!<=d[j]!):∀m,m<=d.size->UT (Go.Lib.compactUpTo d m)/\∀x,x∈Go.Lib.compactUpTo d m↔∃i,i<m/\d[i]! = x
 |0,_=>⟨by simp[Go.Lib.compactUpTo,UT],by simp[Go.Lib.compactUpTo]⟩
 |m+1,hm=>by
  obtain⟨b,e⟩:=Vz k m U;have g:∀i,i<m->d[i]!<=d[m-1]!:=by
   intro i hi;by_cases h:i=m-1
   .simp_all
   .exact k i (m-1) U U
  rw[Go.Lib.compactUpTo_succ];by_cases hk:Go.Lib.keeps d m=a29
  .rw[J hk];refine⟨?_,λx=>?_⟩
   .unfold UT;rw[List.pairwise_append];refine⟨b,p6,λa ha c hc=>?_⟩;obtain⟨i,hi,rfl⟩:=(e a).1 ha;obtain rfl:=pag.1 hc;have hne:d[m]!≠d[m-1]!:=by
     have:=of_decide_eq_true hk;omega
    have h1:=g i hi;have h2:=k (m-1) m U U;omega
   grind
  .rw[s7 hk,List.append_nil];refine⟨b,λx=>?_⟩;rw[e];have f:Go.Lib.keeps d m=a30:=p5
   have hmm:¬(m=0\/d[m]!≠d[m-1]!):=of_decide_eq_false f
   grind
theorem kx(l:List Int):Go.Lib.compact (l.mergeSort λx y=>D1 (x<=y))=ph l:=by
 have hp:=List.pairwise_mergeSort (le:=λ(x y:Int)=>D1 (x<=y)) (λa b c e h2=>s5) (λa b=>s5) l;have hm:∀x,x∈(l.mergeSort λx y=>D1 (x<=y))↔x∈l:=λx=>List.mem_mergeSort;generalize (l.mergeSort λx y=>D1 (x<=y))=q at *;obtain⟨e,h2⟩:=Vz (d:=q.toArray) (λi j hij hj=>by
  grind[List.pairwise_iff_getElem]) q.length p6
 obtain⟨g1,-,g2⟩:=Nh l;refine OH e g1 λx=>?_;unfold Go.Lib.compact;rw[h2,g2,←hm x];constructor
 .grind
 .intro h;obtain⟨i,hi,rfl⟩:=List.mem_iff_getElem.1 h;exact⟨i,hi,p5⟩
theorem Ku(h:l.length<=1099511627776):Sj l=M (ph l):=by
 unfold Sj gb Oa;rw[J,b?,J aaQ,b?,kx]
theorem Tx(h:l.length<=8796093022208):Yh l=M (ph l):=by
 simp_all[Yh,gb,Oa,if_pos,b?,kx]
theorem kA{l:List ia}{x:ia}:((l++[x]).filter p).map (·.N)=if p x=a29 then(l.filter p).map (·.N)++[x.N]else(l.filter p).map (·.N):=by
 grind
theorem Bn(h:e.length<=1099511627776):Of e=M (WG e):=by
 unfold Of;have hb:∀(p:ia->Bool) (i:Nat),(((e.take i).filter p).map (·.N)).length<=a00 e:=λp i=>by
  grind
 have hl:ja (di e) (([]:List Int),([]:List Int),([]:List Int),0)=M (.inl ((e.filter O4).map (·.N),(e.filter Cl).map (·.N),(e.filter my).map (·.N))):=by
  refine lf (λi=>(((e.take i).filter O4).map (·.N),((e.take i).filter Cl).map (·.N),((e.take i).filter my).map (·.N),(i:Int))) e.length _ (λi hi=>?_) ?_ rfl
  .have ht:e.take (i+1)=e.take i++[e[i]]:=p6
   have b1:=hb O4 i;have b2:=hb Cl i;have b3:=hb my i;unfold di;simp only;rw[J,Ma hi,b?,Ha U,ht,kA,kA,kA]
   grind[O4,Cl,my,Lf]
  simp_all[di,if_neg,List.take_length]
 have c:∀p:ia->Bool,((e.filter p).map (·.N)).length<=1099511627776:=λp=>by
  grind
 rw[hl,b?];simp only;rw[Ku (c O4),b?,Ku (c Cl),b?,Ku (c my),b?];rfl
def VO(n:Int) (a:List Int) (x:Int):List Int:=if 0<=x/\x<n then Wy a x else a
def nL(n:Int) (a:List Int):Prop:=UT a/\∀x∈a,0<=x/\x<n
theorem nL.len(h:nL n a):a.length<=n.toNat:=by
 have:=PH (lo:=0) (hi:=n) h.1 h.2;omega
theorem nL.nil:nL n []:=⟨p6,p6⟩
theorem nL.ins(h:nL n a):nL n (VO n a x):=by
 unfold VO;split
 .rename_i hx;refine⟨FJ h.1,λy b=>?_⟩;rcases wA.1 b with b|rfl
  .exact h.2 y b
  omega
 omega
def nL.fold{n:Int}:∀{l a:List Int},nL n a->nL n (l.foldl (VO n) a)
 |[],a,h=>h
 |x::l,a,h=>nL.fold (l:=l) h.ins
theorem VJ{n x:Int}:∀{l a:List Int},x∈l.foldl (VO n) a↔x∈a\/(x∈l/\0<=x/\x<n)
 |[],a=>p6
 |y::l,a=>by
  simp only[Yaf];rw[VJ (l:=l)];unfold VO;split
  .rename_i hy;rw[wA,X']
   grind
  grind
def HE(r:ke):List Int:=jF Cl r.ak++jF Cl r.Value
def X1(n d:Int) (a:List Int) (r:ke):List Int:=if r.ac=d then(HE r).foldl (VO n) a else a
def UU(s:fr) (d:Int):List Int:=if 0<=d/\d<(a00 s.f:Int)then s.n.foldl (X1 s.f.length d) []else []
structure ς (s:fr):Prop where
 defs:s.f.length<=1048576
 rules:s.n.length<=1048576
 g:∀r∈s.n,a00 r.ak<=1048576/\r.Value.length<=1048576
theorem kaa{r:ke}(h:nL n a):nL n (X1 n d a r):=by
 unfold X1;split
 .exact h.fold
 omega
theorem xG{n d:Int}:∀{l:List ke}{a:List Int},nL n a->nL n (l.foldl (X1 n d) a)
 |[],a,h=>h
 |r::l,a,h=>xG (l:=l) (kaa h)
theorem IQ(s:fr) (d:Int):nL s.f.length (UU s d):=by
 grind[UU,xG,nL.nil]
def jI(s:fr) (d x:Int):Prop:=(0<=d/\d<(a00 s.f:Int))/\(0<=x/\x<(a00 s.f:Int))/\∃r∈s.n,r.ac=d/\x∈HE r
theorem sE{s:fr}:x∈UU s d↔jI s d x:=by
 have key:∀(l:List ke) (a:List Int),x∈l.foldl (X1 s.f.length d) a↔x∈a\/(0<=x/\x<(a00 s.f:Int))/\∃r∈l,r.ac=d/\x∈HE r:=by
  intro l
  induction l with
  |nil=>simp
  |cons r l b=>
   intro a;simp only[Yaf];rw[b];unfold X1;split
   .rename_i hr;rw[VJ]
    grind
   simp_all
 unfold UU jI
 simp_all
end Go.Proofs.Dev
namespace Go.Tm
theorem tC{α:Type} [DecidableEq α]:∀{a b:List α},a.Nodup->(∀x∈a,x∈b)->a.length<=a00 b
 |[],b,_,_=>p6
 |x::a,b,h,hs=>by
  obtain⟨h1,h2⟩:=dah.1 h;have:=tC (a:=a) (b:=b.erase x) h2 λy hy=>by
   grind
  grind
theorem UM{a:List Int}(h:UT a):a.Nodup:=h.imp λh he=>U
end Go.Tm
namespace Go.Proofs.Dev
open Go Go.Tm
variable {a:List Int}{x:fr}{y d:Int}{k n i:Nat}{o:Option Bool}{v:Int×Int}
inductive Way (s:fr):Int->Int->Prop
 |one {a b:Int} (h:jI s a b):Way s a b
 |step {a b c:Int} (h:Way s a b) (h2:jI s b c):Way s a c
def trF(s:fr) (a:List Int) (x:Int):List Int:=(UU s x).foldl Wy a
def trR(s:fr) (a:List Int):List Int:=a.foldl (trF s) a
def CT(s:fr) (d:Int):Nat->List Int
 |0=>UU s d
 |k+1=>trR s (CT s d k)
theorem WM{n:Int}:∀{l a:List Int},(∀x∈l,0<=x/\x<n)->l.foldl Wy a=l.foldl (VO n) a
 |[],a,_=>rfl
 |x::l,a,h=>by
  simp only[Yaf];rw[show VO n a x=Wy a x from J (h x p6),WM λy hy=>h y s5]
theorem uae(s:fr) (a:List Int) (x:Int):trF s a x=(UU s x).foldl (VO s.f.length) a:=WM (IQ s x).2
theorem ae7{s:fr}{x:Int}(h:nL s.f.length a):nL s.f.length (trF s a x):=by rw[uae];exact h.fold
theorem ae6{s:fr}{x:Int}:y∈trF s a x↔y∈a\/jI s x y:=by
 rw[uae,VJ];constructor
 .grind[sE]
 .rintro(h|h)
  .simp_all
  .exact .inr ⟨sE.2 h,h.2.1⟩
def VK{s:fr}:∀{l a:List Int},nL s.f.length a->nL s.f.length (l.foldl (trF s) a)
 |[],a,h=>h
 |x::l,a,h=>VK (l:=l) (ae7 h)
theorem nw{s:fr}{y:Int}:∀{l a:List Int},y∈l.foldl (trF s) a↔y∈a\/∃x∈l,jI s x y
 |[],a=>p6
 |x::l,a=>by
  simp only[Yaf];rw[nw (l:=l),ae6]
  grind
def xP(s:fr) (d:Int):∀k,nL s.f.length (CT s d k)
 |0=>IQ s d
 |k+1=>VK (xP s d k)
theorem lG{s:fr}{d y:Int}:∀{k:Nat},y∈CT s d k->Way s d y
 |0,h=>.one (sE.1 h)
 |k+1,h=>by
  rcases nw.1 h with h|⟨x,a,h2⟩
  .exact lG h
  .exact .step (lG a) h2
def WK{s:fr}(h:y∈CT s d k):y∈CT s d (k+1):=nw.2 (.inl h)
theorem DT{s:fr}{d y:Int}(h:jI s d y):∀k,y∈CT s d k
 |0=>sE.2 h
 |k+1=>WK (DT h k)
def bb8(s:fr) (a:List Int):Prop:=∀x∈a,∀y,jI s x y->y∈a
open Classical in
theorem ET{s:fr}{d:Int}:∀k,bb8 s (CT s d k)\/k+1<=(CT s d k).length
 |0=>by
  cases h:CT s d 0 with
  |nil=>exact .inl λx hx=>by simp at hx
  |cons x l=>exact .inr p6
 |k+1=>by
  by_cases hc:bb8 s (CT s d k)
  .refine .inl λx hx y g=>?_;have c:x∈CT s d k:=by
    rcases nw.1 hx with h|⟨z,n,h2⟩
    .exact h
    .exact hc z n x h2
   exact WK (hc x c y g)
  .rcases ET k with h|h
   .exact(hc h).elim
   .right;obtain⟨x,hx⟩:=eaj.1 hc;obtain⟨e,f⟩:=waj.1 hx;obtain⟨y,g⟩:=eaj.1 f;obtain⟨i,j⟩:=waj.1 g;have:=tC (a:=y::CT s d k) (b:=CT s d (k+1)) (dah.2 ⟨j,UM (xP s d k).1⟩) λz m=>by
     rcases X'.1 m with rfl|m
     .exact nw.2 (.inr ⟨x,e,i⟩)
     .exact WK m
    simp only[List.length_cons]at this;omega
theorem vae(s:fr) (d:Int):bb8 s (CT s d s.f.length):=by
 rcases ET (s:=s) (d:=d) s.f.length with h|h
 .exact h
 .have:=(xP s d s.f.length).len;omega
theorem UH{s:fr}:y∈CT s d s.f.length↔Way s d y:=by
 constructor
 .exact lG
 .intro h
  induction h with
  |one h=>grind[DT]
  |step h h2 a=>exact vae s d _ a _ h2
def jH(n:Int) (l:List Int):List Int:=l.filter λx=>D1 (0<=x)&&D1 (x<n)
theorem tM{n:Int}{l:List Int}(h:a.length+a00 l<=1099511627776) {step:List Int×Int->Option (Ex (List Int×Int) (List Int) Unit)}
 (hstep:∀(a:List Int) (i:Nat) (hi:i<a00 l),step (a,(i:Int))=(e? (α:=List Int) (if(D1 (0<=l[i])&&D1 (l[i]<n))=a29 then(app 8 a [l[i]]).bind λx=>M x else M a) λj=>M (.go (j,aa .i64 ((i:Int)+1)))))
 (hend:∀a,step (a,(a00 l:Int))=M (.brk a)):ja step (a,0)=M (.inl (a++jH n l)):=by
 refine lf (λi=>(a++jH n (l.take i),(i:Int))) l.length _ (λi hi=>?_) ?_ (by simp[jH])
 .have hlen:(jH n (l.take i)).length<=i:=by
   grind[jH]
  have ht:jH n (l.take (i+1))=jH n (l.take i)++(if(D1 (0<=l[i])&&D1 (l[i]<n))=a29 then [l[i]]else []):=by
   grind[jH,Ι]
  grind[Ha,Lf]
 simp_all
theorem eu{r:ke}(h:r.ak.length<=1048576/\r.Value.length<=1048576) (n:Int):Qe r n=M (jH n (jF Cl r.ak)++jH n (jF Cl r.Value)):=by
 unfold Qe;have l1:=aB (p:=Cl) (e:=r.ak);have l2:=aB (p:=Cl) (e:=r.Value);have l3:(jH n (jF Cl r.ak)).length<=(jF Cl r.ak).length:=Zaf _ _;rw[Bn U,b?,Bn U,b?];have b:ja (Zf n (WG r.ak)) (([]:List Int),0)=M (.inl ([]++jH n (jF Cl r.ak))):=by
  refine tM (l:=jF Cl r.ak) s5 (λa i hi=>?_) (λa=>?_)
  .unfold Zf WG;simp only;rw[J,Ma hi,b?]
   grind
  grind[Zf,WG]
 rw[b,b?];simp only[List.nil_append];have b2:ja (Yf n (WG r.Value)) (jH n (jF Cl r.ak),0)=M (.inl (jH n (jF Cl r.ak)++jH n (jF Cl r.Value))):=by
  refine tM (l:=jF Cl r.Value) U (λa i hi=>?_) (λa=>?_)
  .unfold Yf WG;simp only;rw[J,Ma hi,b?]
   grind
  grind[Yf,WG]
 simp_all
theorem Ε{α β:Type}{f:α->Option β}(g:α->β):∀{l:List α},(∀x∈l,f x=M (g x))->l.mapM f=M (l.map g)
 |[],_=>rfl
 |x::l,h=>by
  rw[List.mapM_cons,h x p6,Ε g λy hy=>h y s5];rfl
def Yq(s:fr):List (List Int):=
 (s? s.f.length).map λ(d:Nat)=>ph ((s.n.filter λ(r:ke)=>r.ac==(d:Int)).map λr=>jH s.f.length (jF Cl r.ak)++jH s.f.length (jF Cl r.Value)).flatten
theorem Vo{s:fr}(a:ς s):Fc s=M (Yq s):=by
 unfold Fc Yq;rw[J ⟨a.defs,a.rules,a.g⟩];refine Ε _ λd _=>?_;rw[Ε (λr=>jH s.f.length (jF Cl r.ak)++jH s.f.length (jF Cl r.Value)) λr hr=>eu (a.g r (nah.1 hr).1) _];rfl
theorem rE{s:fr}{l:List Int}(h0:0<=d) (h:(Yq s)[d.toNat]?=M l) (x:Int):x∈l↔jI s d x:=by
 unfold Yq at h;rw[List.getElem?_map]at h;by_cases hd:d.toNat<a00 s.f
 .rw[List.getElem?_range hd]at h;simp only[Option.map_some,M?]at h;subst h;rw[(Nh _).2.2];simp only[List.mem_flatten,V!,nah,T!,jI,HE,jH]
  grind
 simp_all
theorem Zt(s:fr):(Yq s).length=a00 s.f:=by simp[Yq]
theorem V5{s:fr}{a b:Int}(f:0<=a):O? (Yq s) a b↔Way s a b:=by
 constructor
 .intro h;have key:∀{b:Int},O? (Yq s) a b->Way s a b/\0<=b:=by
   intro b h
   induction h with
   |one h hb=>exact have:=(rE f h _).1 hb;⟨.one this,this.2.1.1⟩
   |step h hl hc e=>exact have:=(rE e.2 hl _).1 hc;⟨.step e.1 this,this.2.1.1⟩
  simp_all
 .intro h;have get:∀{d x:Int},jI s d x->∃l,(Yq s)[d.toNat]?=M l/\x∈l:=by
   intro d x hd;have c:d.toNat<(Yq s).length:=by rw[Zt];have:=hd.1;omega
   exact⟨_,x! c,(rE hd.1.1 (x! c) x).2 hd⟩
  induction h with
  |one h=>obtain⟨l,g,h2⟩:=get h;exact .one g h2
  |step h h2 e=>obtain⟨l,i,j⟩:=get h2;exact .step e i j
theorem qO{l:List Int}(hl:l.length<=1099511627776) (d:Int):kf l d=M (D1 (d∈l)):=by
 have h:=Ss (l:=l) (p:=λx=>M (D1 (d=x))) (λx=>D1 (d=x)) (λx _=>rfl) U (o:=ja (Yg l d) 0) (by
  unfold Yg;simp)
 have h':kf l d=M (l.any λx=>D1 (d=x)):=h
 grind
open Classical in
theorem yn{s:fr}(c:ς s) (d:Int):∃l,ld s d=M l/\l.length<=1048576/\∀x,x∈l↔Way s d x:=by
 unfold ld;by_cases hd:0<=d/\d<(a00 s.f:Int)
 .have hn:=c.defs;refine⟨lK (Yq s) d,?_,?_,?_⟩
  .rw[J,b?,s7 aaQ,Vo c,b?];unfold lj;rw[if_pos]
   .rfl
   .refine⟨by rw[Zt];omega,λl hl=>?_,hd.1,by rw[Zt];exact hd.2⟩;obtain⟨i,hi,rfl⟩:=O' hl;have hm:=λx=>rE (s:=s) (d:=(i:Int)) (l:=(Yq s)[i]) U (by rw[Int.toNat_natCast];exact x! hi) x;have hb:∀x∈(Yq s)[i],0<=x/\x<((Yq s).length:Int):=λx hx=>by rw[Zt];exact((hm x).1 hx).2.1
    refine⟨?_,hb⟩;have a:UT (Yq s)[i]:=by simp only[Yq,List.getElem_map];exact(Nh _).1
    have:=PH a hb;rw[Zt]at this;omega
  .have e:=Zaf (λb=>@decide (O? (Yq s) d b) (Classical.propDecidable _)) ((s? (Yq s).length).map λ(k:Nat)=>(k:Int));unfold lK;simp only[List.length_map,List.length_range,Zt]at e⊢;omega
  .intro x;unfold lK;rw[nah,Zt,V!,R2,V5 hd.1];constructor
   .exact λh=>h.2
   .intro h;refine⟨?_,h⟩;have:0<=x/\x<(a00 s.f:Int):=by cases h with|one h=>exact h.2.1|step _ h=>exact h.2.1
    exact⟨x.toNat,aaQ,U⟩
 .refine⟨[],?_,p6,λx=>?_⟩
  .have:(if¬d<0 then M (D1 ((a00 s.f:Int)<=d))else M a29)=M a29:=by
    by_cases h:d<0
    .rw[s7]
    .rw[J h,D2 U]
   rw[this];rfl
  .constructor
   .intro h;simp at h
   .intro h;exfalso;apply hd;clear hd
    induction h with
    |one h=>exact h.1
    |step h h2 f=>exact f
structure p? (l:ej):Prop where
 ne:l.z.length<=1048576
 nt:l.Tables.length<=1048576
 ns:l.e.length<=1048576
 e:∀x∈l.z,x.q.size<=1048576/\∀m∈x.w,m.size<=1048576
 t:∀x∈l.Tables,x.q.size<=1048576
 s:∀x∈l.e,x.q.size<=1048576/\ς x/\x.ad.length<=1048576/\(∀f∈x.ad,f.q.size<=1048576)/\(∀f∈x.f,f.q.size<=1048576)/\
  (∀r∈x.n,r.q.size<=1048576/\r.be.size<=1048576/\(∀n∈r.ak,Pd n)/\∀n∈r.Value,Pd n)
theorem OF{l:List pd}(hl:l.length<=1048576) (nm:ByteArray):eo l nm=M (l.any λx=>D1 (x.q=nm)):=by
 have h:=Ss (l:=l) (p:=λx=>Og x nm) (λx=>D1 (x.q=nm)) (λx _=>rfl) U (o:=ja (xd l (λx=>Og x nm)) 0) rfl;have h':Ab l (λx=>Og x nm)=M (l.any λx=>D1 (x.q=nm)):=h
 grind[eo]
theorem EJ{l:List po}(hl:l.length<=1048576) (nm:ByteArray):cp l nm=M (l.any λx=>D1 (x.q=nm)):=by
 have h:=Ss (l:=l) (p:=λx=>Pf x nm) (λx=>D1 (x.q=nm)) (λx _=>rfl) U (o:=ja (Uc l (λx=>Pf x nm)) 0) rfl;have h':vb l (λx=>Pf x nm)=M (l.any λx=>D1 (x.q=nm)):=h
 grind[cp]
theorem CV{l:List fr}(hl:l.length<=1048576) (y:fr):ub l (λx=>Wd x y)=M (l.any λx=>D1 (x.q=y.q)):=
 Ss (l:=l) (p:=λx=>Wd x y) (λx=>D1 (x.q=y.q)) (λx _=>rfl) U (o:=ja (Tc l (λx=>Wd x y)) 0) rfl
theorem DJ{l:List mu}(hl:l.length<=1048576) (y:mu):Ua l (λx=>Qc x y)=M (l.any λx=>D1 (x.q=y.q)):=
 Ss (l:=l) (p:=λx=>Qc x y) (λx=>D1 (x.q=y.q)) (λx _=>rfl) U (o:=ja (Sc l (λx=>Qc x y)) 0) rfl
theorem I4{l:List ke}(hl:l.length<=1048576) (y:ke):Bb l (λx=>df x y)=M (l.any λx=>D1 (x.q=y.q)):=
 Ss (l:=l) (p:=λx=>df x y) (λx=>D1 (x.q=y.q)) (λx _=>rfl) U (o:=ja (Bd l (λx=>df x y)) 0) rfl
theorem nab{l:List ByteArray}(hl:l.length<=1048576) (y:ByteArray):ee l y=M (l.any λx=>D1 (x=y)):=by
 have h:=Ss (l:=l) (p:=λx=>M (D1 (y=x))) (λx=>D1 (x=y)) (λx _=>s5) U (o:=ja (fe l y) 0) (by
  unfold fe;simp)
 exact h
noncomputable def ao9(x:pd) (k:Nat):Option (Int×Int):=
 match x.w[k]? with
 |some m=>if Lu m=a30 then M (2,100+(k:Int))else if((x.w.take k).any λy=>D1 (y=m))=a29 then M (7,100+(k:Int))else u4
 |none=>u4
noncomputable def ym(l:ej) (i:Nat) (x:pd):Int×Int:=
 if Lu x.q=a30 then(2,0)else if((l.z.take i).any λy=>D1 (y.q=x.q))=a29 then(7,0)
 else if x.w.length=0 then(5,0)else if 16<a00 x.w then(4,116)else(ff (ao9 x) x.w.length).getD (0,0)
theorem kH{l:ej}(h:p? l) (hi:i<a00 l.z):Fp l (i:Int) l.z[i]=M (ym l i l.z[i]):=by
 obtain⟨g1,g2⟩:=h.e _ (E' hi);have hne:=h.ne;generalize l.z[i]=x at g1 g2⊢;unfold Fp ym;rw[Jq U,b?];cases Lu x.q
 .rfl
 simp only[M',hag,G1];rw[ax U,b?,OF s5,b?];cases (l.z.take i).any λy=>D1 (y.q=x.q)
 .simp only[M',hag,G1];by_cases b:x.w.length=0
  .simp_all
  rw[s7,s7 b];by_cases a:16<a00 x.w
  .grind
  rw[s7,s7 a];have hl:ja (Pk x) 0=M (Aj () (ff (ao9 x) x.w.length)):=
   Ji (λk=>(k:Int)) _ _ _ (λk hk _=>by
    have hm:=g2 _ (E' hk);unfold Pk ao9;rw[J,Ma hk,b?,Jq U,b?,x! hk,m? (n:=100+(k:Int)) U U,Ha U,ax U,b?,nab s5,b?];simp only;cases Lu x.w[k]
    .rfl
    .simp only[M',hag,G1];cases (x.w.take k).any λy=>D1 (y=x.w[k])<;>rfl) (λ_=>by grind[Pk])
  rw[hl];cases ff (ao9 x) x.w.length<;>rfl
 .rfl
noncomputable def Su(l:ej) (i:Nat) (x:po):Int×Int:=
 if Lu x.q=a30 then(2,0)
 else if((l.z.any λy=>D1 (y.q=x.q)) || (l.Tables.take i).any λy=>D1 (y.q=x.q))=a29 then(7,0)
 else if(Tu x l.z).2=0 then(0,0)else((Tu x l.z).2,if(Tu x l.z).1 = -1 then 0 else 100+(Tu x l.z).1)
theorem JW(t:po) (e:List pd):-1<=(Tu t e).1/\(Tu t e).1<=64:=by
 unfold Tu;split
 .simp
 .split
  .simp
  .cases h:ff (VL t e) t.Rows.length with
   |none=>simp
   |some v=>
    grind[VL,Vb]
theorem U4{l:ej}(h:p? l):ja (ji l) 0=M (Aj () (ff (λi=>match l.Tables[i]? with|some x=>if(Su l i x).1=0 then u4 else M (⟨(Su l i x).1,2,(i:Int),(Su l i x).2⟩:pr)|none=>u4) l.Tables.length)):=by
 have hnt:=h.nt;have a:=h.ne;refine Ji (λk=>(k:Int)) _ _ _ (λi hi _=>?_) (λ_=>by grind[ji]);have hx:=h.t _ (E' hi);unfold ji Su;rw[J,Ma hi,b?,x! hi,Ha U];simp only;generalize l.Tables[i]=x at hx⊢;have hr:=JW x l.z;rw[gG,b?,Jq U,b?,OF a,b?,ax U,b?,EJ s5,m? (n:=100+(Tu x l.z).1) U U]
 grind[qL]
noncomputable def Sy(l:ej) (f:mu) (a b:List mu):Int:=
 if Lu f.q=a30 then 2 else if((a.any λy=>D1 (y.q=f.q)) || b.any λy=>D1 (y.q=f.q))=a29 then 7 else if Aa f.ao l.z=a30 then 8 else 0
theorem ny{l:ej}{f:mu}{a b:List mu}(hf:f.q.size<=1048576) (ha:a.length<=1048576) (hb:b.length<=1048576):Qk l f a b=M (Sy l f a b):=by
 unfold Qk Sy;rw[Jq U,b?,DJ ha,b?,DJ hb,qc,b?]
 grind
theorem fH{l:List mu}(hl:l.length<=1048576) {step:List ek×Int->Option (Ex (List ek×Int) (List ek) Unit)}
 (hstep:∀(a:List ek) (i:Nat) (hi:i<a00 l),step (a,(i:Int))=((app 16 a [l[i].ao]).bind λx=>M (.go (x,aa .i64 ((i:Int)+1)))))
 (hend:∀a,step (a,(a00 l:Int))=M (.brk a)):ja step (([]:List ek),0)=M (.inl (l.map (·.ao))):=by
 refine lf (λi=>((l.take i).map (·.ao),(i:Int))) l.length _ (λi hi=>?_) p5 p6
 grind[Lf,Ha,Ι]
theorem tt{l:List mu}(hl:l.length<=1048576):ki l=M (l.map (·.ao)):=by
 unfold ki;rw[fH hl (step:=xj l) (λa i hi=>by simp_all[xj,Ma]) (λa=>by grind[xj])];rfl
def BK(l:ej) (s:fr):ri:=
 if h:0<=s.ah/\s.ah<(a00 l.e:Int)then⟨l.z,l.Tables,s.ad.map (·.ao),s.f.map (·.ao),(l.e[s.ah.toNat]' U).f.map (·.ao),a29⟩
 else⟨l.z,l.Tables,s.ad.map (·.ao),s.f.map (·.ao),[],a30⟩
theorem Fz{l:ej}(h:p? l) (hi:i<a00 l.e):sh l (i:Int)=M (BK l l.e[i]):=by
 obtain⟨g1,g2,g3,-⟩:=h.s _ (E' hi);have gd:=g2.defs;unfold sh BK;rw[Ma hi,b?];generalize l.e[i]=x at gd g3⊢;rw[tt g3,b?,tt gd,b?];by_cases hm:0<=x.ah/\x.ah<(a00 l.e:Int)
 .have hd:=(h.s _ (E' (l:=l.e) (n:=x.ah.toNat) U)).2.1.defs
  simp_all[mn,tt]
 grind
def IN(s:ByteArray) (i:Nat):Bool:=if h:i<s.size then D1 (32<=(s[i].toNat:Int))&&D1 ((s[i].toNat:Int)<=126)&&!((s[i].toNat:Int)==34)else a29
def ag7(s:ByteArray):Bool:=D1 (s.size<=64)&&(ff (λi=>if IN s i=a29 then u4 else M a30) s.size).isNone
theorem Z4{s:ByteArray}{c:UInt8}:s.data.toList.contains c=a29↔∃i,∃h:i<s.size,s[i]=c:=by
 rw[List.contains_iff_mem];constructor
 .intro h;obtain⟨i,hi,he⟩:=O' h;exact⟨i,by simpa using hi,by rw[←he];rfl⟩
 .rintro⟨i,hi,rfl⟩;exact E' (l:=s.data.toList) (n:=i) p5
theorem mE{s:ByteArray}(hs:s.size<=1048576):Bm s=M (ag7 s):=by
 unfold Bm ag7 x?;rw[J (show(z? #[34]).size=1 from rfl)];by_cases h64:64<s.size
 .grind
 rw[J,D2 (p:=s.size<=64) U];have d:ja (oi s) 0=M (Aj () (ff (λi=>if(if h:i<s.size then D1 (32<=(s[i].toNat:Int))&&D1 ((s[i].toNat:Int)<=126)else a29)=a29 then u4 else M a30) s.size)):=
  Ji (λi=>(i:Int)) _ _ _ (λi hi _=>by
   unfold oi;rw[J,Fad hi,b?,Ha U,dif_pos hi]
   grind[qL]) (λ_=>by grind[oi])
 rw[d];simp only[b?,X?];have hc:=Z4 (s:=s) (c:=34);change (s.data.toList.contains ((z? #[34]).data.toList.headD 0))=a29↔_ at hc;have h34:∀i (h:i<s.size),s[i]=34↔(s[i].toNat:Int)=34:=λi h=>by
  constructor
  .simp_all
  .intro he;apply UInt8.toNat_inj.1
   grind
 cases hq:s.data.toList.contains ((z? #[34]).data.toList.headD 0)
 .rw[hq]at hc;have hno:∀i (h:i<s.size),(s[i].toNat:Int)≠34:=λi h he=>by
   simp_all
  rw[s7 p6];have b:ff (λi=>if(if h:i<s.size then D1 (32<=(s[i].toNat:Int))&&D1 ((s[i].toNat:Int)<=126)else a29)=a29 then u4 else M a30) s.size=ff (λi=>if IN s i=a29 then u4 else M a30) s.size:=by
   simp_all[IN]
  rw[b]
  cases h2:ff (λi=>if IN s i=a29 then u4 else M a30) s.size with
  |none=>rfl
  |some v=>
   obtain⟨j,j1,a,-⟩:=Vb.1 h2;split at a
   .grind
   .injection a with a;subst a;rfl
 .obtain⟨i,hi,he⟩:=hc.1 hq;rw[J rfl]
  cases h2:ff (λi=>if IN s i=a29 then u4 else M a30) s.size with
  |some v=>rfl
  |none=>
   simp_all[IN,Mb]
noncomputable def YK(e:List ia) (s:ri) (t:ek):Int:=
 if¬(xz e s).2.2=0 then(xz e s).2.2 else if¬((xz e s).1.a=t.a/\(xz e s).1.s=t.s)then 8 else 0
theorem qz{e:List ia}(hN:∀n∈e,Pd n) (s:ri) (t:ek):Pm e s t=M (YK e s t):=by
 grind[Pm,YK,JL]
def YL(x:fr) (k:Nat) (r:ke):Nat:=((x.n.take k).filter λy=>D1 (y.ac=r.ac)).length
theorem ai0(x:fr) (k:Nat) (r:ke):YL x k r<=k:=by
 grind[YL]
theorem Q6{r:ke}(hk:k<a00 x.n):YL x (k+1) r=if x.n[k].ac=r.ac then YL x k r+1 else YL x k r:=by
 unfold YL;rw[Ι,x! hk,List.filter_append,List.length_append]
 grind
def eP(x:fr) (k:Nat) (r:ke):Bool:=
 if r.an = -1 then a30 else if r.an<0 then a29 else if(k:Int)<=r.an then a29 else match x.n[r.an.toNat]? with|some q=>q.ac !=r.ac|none=>a29
noncomputable def XG(x:fr) (s:ri) (k:Nat) (r:ke):Int:=
 if Lu r.q=a30 then 2
 else if((x.n.take k).any λy=>D1 (y.q=r.q))=a29 then 7
 else if r.ac<0\/(a00 x.f:Int)<=r.ac then 6
 else if eP x k r=a29 then 9
 else if r.a6<0\/9<r.a6\/r.ai.r<0\/r.ai.To<=r.ai.r\/109573<r.ai.To then 3
 else if 8<=YL x k r then 4
 else if ag7 r.be=a30 then 2
 else if 0<a00 r.ak/\YK r.ak s ⟨1,0⟩≠0 then YK r.ak s ⟨1,0⟩
 else YK r.Value s (match x.f[r.ac.toNat]? with|some d=>d.ao|none=>⟨0,0⟩)
structure ab0 (r:ke):Prop where
 nm:r.q.size<=1048576
 src:r.be.size<=1048576
 g:∀n∈r.ak,Pd n
 v:∀n∈r.Value,Pd n
variable {r:ke}
theorem bi9(hk:k<a00 x.n) (ho:o=(if¬r.an = -1 then if¬r.an<0 then if¬(k:Int)<=r.an then(e! x.n r.an).bind λy=>M (y.ac !=r.ac)else M a29 else M a29 else M a30)):o=M (eP x k r):=by
 rw[ho];unfold eP;by_cases a:r.an = -1
 .grind
 by_cases h2:r.an<0
 .simp_all
 by_cases b:(k:Int)<=r.an
 .simp_all
 .rw[J a,J h2,J b,s7 a,s7 h2,s7 b,mn U U,b?,x!]
theorem lH(hx:ς x) (hk:k<a00 x.n) (hr:ab0 x.n[k]) (s:ri):Gp x (k:Int) s=M (XG x s k x.n[k]):=by
 have hrl:=hx.rules;have hdl:=hx.defs;unfold Gp XG;rw[Ma hk,b?,ax U,b?];generalize hrr:x.n[k]=r at hr⊢;have hl:ja (Rk r (x.n.take k)) (0,0)=M (.inl ((YL x k r:Nat):Int)):=by
  refine lf (λi=>(((YL x i r:Nat):Int),(i:Int))) k _ (λi hi=>?_) ?_ rfl
  .have:=ai0 x i r;unfold Rk;simp only;rw[J s5,Ma s5,b?,Ha U,Ha U,Oai,Q6 U]
   grind
  grind[Rk]
 rw[hl,b?];simp only;rw[Jq (by have:=hr.nm;omega),b?,b?,I4 s5,b?];cases Lu r.q
 .rfl
 simp only[hag,G1];cases (x.n.take k).any λy=>D1 (y.q=r.q)
 .simp only[M',G1];by_cases hd:r.ac<0\/(a00 x.f:Int)<=r.ac
  .grind
  .rw[s7 hd,J,b?,s7 p5];rw[bi9 hk rfl,b?];cases eP x k r
   .simp only[M',G1];by_cases hp:r.a6<0\/9<r.a6
    .grind
    .rw[J (show¬r.a6<0 by omega),b?,s7 p5];by_cases hv:r.ai.r<0\/r.ai.To<=r.ai.r\/109573<r.ai.To
     .grind
     .rw[J (show¬r.ai.r<0 by omega),J (show¬r.ai.To<=r.ai.r by omega),b?,s7 p5,s7 (show¬(r.a6<0\/9<r.a6\/r.ai.r<0\/r.ai.To<=r.ai.r\/109573<r.ai.To) by omega)];by_cases b:8<=YL x k r
      .grind
      rw[s7,s7 b,mE hr.src,b?];cases ag7 r.be
      .rfl
      simp only[hag,G1];have hi:e! x.f r.ac=M (x.f[r.ac.toNat]' U):=mn U U;have a:x.f[r.ac.toNat]?=M (x.f[r.ac.toNat]' U):=x! _;simp only[hi,a,qz hr.g,qz hr.v,b?]
      grind
   .rfl
 .rfl
theorem aL4{l:ej}(h:p? l) (hi:i<a00 l.e) (hr:r∈l.e[i].n):ab0 r:=by
 obtain⟨-,-,-,-,-,g⟩:=h.s _ (E' hi);obtain⟨a,b,c,d⟩:=g r hr;exact⟨a,b,c,d⟩
noncomputable def inF(l:ej) (x:fr) (k:Nat):Option (Int×Int):=
 match x.ad[k]? with
 |some f=>if Sy l f (x.ad.take k) []=0 then u4 else M (Sy l f (x.ad.take k) [],100+(k:Int))
 |none=>u4
noncomputable def SU(l:ej) (x:fr) (k:Nat):Option (Int×Int):=
 match x.f[k]? with
 |some f=>if Sy l f x.ad (x.f.take k)=0 then u4 else M (Sy l f x.ad (x.f.take k),200+(k:Int))
 |none=>u4
noncomputable def tW(l:ej) (x:fr) (k:Nat):Option (Int×Int):=
 match x.n[k]? with
 |some r=>if XG x (BK l x) k r=0 then u4 else M (XG x (BK l x) k r,300+(k:Int))
 |none=>u4
open Classical in
noncomputable def L1(x:fr) (k:Nat):Option (Int×Int):=if Way x (k:Int) (k:Int)then M (9,200+(k:Int))else u4
def TF(l:ej) (i:Nat) (x:fr):Bool:=
 if x.ah = -1 then a30 else if x.ah<0 then a29 else if(i:Int)<=x.ah then a29 else match l.e[x.ah.toNat]? with|some q=>q.ah !=-1|none=>a29
noncomputable def wq(l:ej) (i:Nat) (x:fr):Int×Int:=
 if Lu x.q=a30 then(2,0)
 else if((l.z.any λy=>D1 (y.q=x.q)) || ((l.Tables.any λy=>D1 (y.q=x.q)) || (l.e.take i).any λy=>D1 (y.q=x.q)))=a29 then(7,0)
 else if TF l i x=a29 then(6,0)
 else if 12<a00 x.ad then(4,112)
 else if 12<a00 x.f then(4,212)
 else match ff (inF l x) x.ad.length with
  |some v=>v
  |none=>match ff (SU l x) x.f.length with
   |some v=>v
   |none=>match ff (tW l x) x.n.length with
    |some v=>v
    |none=>(ff (L1 x) x.f.length).getD (0,0)
theorem Y4{l:ej}(hi:i<a00 l.e) (ho:o=(if¬x.ah = -1 then if¬x.ah<0 then if¬(i:Int)<=x.ah then(e! (l.e.take i) x.ah).bind λy=>M (y.ah !=-1)else M a29 else M a29 else M a30)):o=M (TF l i x):=by
 rw[ho];unfold TF;by_cases a:x.ah = -1
 .grind
 by_cases h2:x.ah<0
 .simp_all
 by_cases b:(i:Int)<=x.ah
 .simp_all
 .rw[J a,J h2,J b,s7 a,s7 h2,s7 b,mn U s5,b?,x! U,Oai]
theorem QF{l:ej}(h:p? l) (hi:i<a00 l.e):bo l (i:Int)=M (wq l i l.e[i]):=by
 obtain⟨g1,g2,g3,g4,g5,f⟩:=h.s _ (E' hi);have c:=h.ne;have d:=h.nt;have hns:=h.ns;have hS:=Fz h hi;have b:∀r∈l.e[i].n,ab0 r:=λr hr=>aL4 h hi hr;unfold bo wq;rw[Ma hi,b?,ax U,b?];generalize l.e[i]=x at g1 g2 g3 g4 g5 f hS b⊢;have gd:=g2.defs;have gr:=g2.rules;rw[OF c,b?,EJ d,CV s5,Jq U];have e:(if(l.z.any λy=>D1 (y.q=x.q))=a30 then(M (l.Tables.any λy=>D1 (y.q=x.q))).bind λu=>if u=a30 then(M ((l.e.take i).any λy=>D1 (y.q=x.q))).bind λw=>M w else M a29 else M a29) =
  M ((l.z.any λy=>D1 (y.q=x.q)) || ((l.Tables.any λy=>D1 (y.q=x.q)) || (l.e.take i).any λy=>D1 (y.q=x.q))):=by
  grind
 rw[e,b?,b?];cases Lu x.q
 .rfl
 simp only[hag,G1];cases (l.z.any λy=>D1 (y.q=x.q)) || ((l.Tables.any λy=>D1 (y.q=x.q)) || (l.e.take i).any λy=>D1 (y.q=x.q))
 .simp only[M',G1];rw[Y4 (l:=l) (x:=x) hi rfl,b?];cases TF l i x
  .simp only[M',G1];by_cases j:12<a00 x.ad
   .grind
   rw[s7,s7 j];by_cases g:12<a00 x.f
   .grind
   rw[s7,s7 g];have m:ja (wj l x) 0=M (Aj () (ff (inF l x) x.ad.length)):=
    Ji (λk=>(k:Int)) _ _ _ (λk hk _=>by
     unfold wj inF;rw[J,Ma hk,b?,ax U,b?,ny (g4 _ (E' hk)) s5 p6,b?,x! hk,m? (n:=100+(k:Int)) U U,Ha U];dsimp only;by_cases a:Sy l x.ad[k] (x.ad.take k) []=0
     .rw[s7,J a];rfl
     .rw[J a,s7 a];rfl) (λ_=>by grind[wj])
   have o:ja (vj l x) 0=M (Aj () (ff (SU l x) x.f.length)):=
    Ji (λk=>(k:Int)) _ _ _ (λk hk _=>by
     unfold vj SU;rw[J,Ma hk,b?,ax U,b?,ny (g5 _ (E' hk)) g3 s5,b?,x! hk,m? (n:=200+(k:Int)) U U,Ha U];dsimp only;by_cases a:Sy l x.f[k] x.ad (x.f.take k)=0
     .rw[s7,J a];rfl
     .rw[J a,s7 a];rfl) (λ_=>by grind[vj])
   have p:ja (uj x (BK l x)) 0=M (Aj () (ff (tW l x) x.n.length)):=
    Ji (λk=>(k:Int)) _ _ _ (λk hk _=>by
     unfold uj tW;rw[J,lH g2 hk (b _ (E' hk)),b?,x! hk,m? (n:=300+(k:Int)) U U,Ha U];dsimp only;by_cases a:XG x (BK l x) k x.n[k]=0
     .rw[s7,J a];rfl
     .rw[J a,s7 a];rfl) (λ_=>by grind[uj])
   have t:ja (sj x) 0=M (Aj () (ff (L1 x) x.f.length)):=
    Ji (λk=>(k:Int)) _ _ _ (λk hk _=>by
     obtain⟨q,q1,q2,q3⟩:=yn g2 (k:Int);unfold sj L1;rw[J,q1,b?,qO U,b?,m? (n:=200+(k:Int)) U U,Ha U];by_cases a:Way x (k:Int) (k:Int)
     .rw[J p5,J a];rfl
     .rw[s7 p5,s7 a];rfl) (λ_=>by grind[sj])
   rw[m,b?]
   cases ff (inF l x) x.ad.length with
   |some v=>rfl
   |none=>
    simp only[Aj];rw[o,b?]
    cases ff (SU l x) x.f.length with
    |some v=>rfl
    |none=>
     simp only[Aj];rw[hS,b?,p,b?]
     cases ff (tW l x) x.n.length with
     |some v=>rfl
     |none=>
      simp only[Aj];rw[t,b?];cases ff (L1 x) x.f.length<;>rfl
  .rfl
 .rfl
theorem aW9{α β:Type}{f:Nat->Option α}(g:α->β) :ff (λk=>(f k).map g) n=(ff f n).map g:=by
 cases h1:ff f n with
 |none=>grind[Mb]
 |some v=>grind[Vb]
def le3(i:Nat) (v:Int×Int):pr:=⟨v.1,3,(i:Int),v.2⟩
theorem pab{l:ej}(h:inF l x k=M v):v.1≠0:=by
 grind[inF]
theorem yX{l:ej}(h:SU l x k=M v):v.1≠0:=by
 grind[SU]
theorem qZ{l:ej}(h:tW l x k=M v):v.1≠0:=by
 grind[tW]
theorem QM{f:Nat->Option (Int×Int)}(hf:∀{k v},f k=M v->v.1≠0) (h:ff f n=M v):v.1≠0:=by
 grind[Vb]
noncomputable def yq(l:ej):pr:=
 if 8<a00 l.z then⟨4,1,8,0⟩
 else match ff (λi=>match l.z[i]? with|some x=>if(ym l i x).1=0 then u4 else M (⟨(ym l i x).1,1,(i:Int),(ym l i x).2⟩:pr)|none=>u4) l.z.length with
  |some v=>v
  |none=>
   if 8<a00 l.Tables then⟨4,2,8,0⟩
   else match ff (λi=>match l.Tables[i]? with|some x=>if(Su l i x).1=0 then u4 else M (⟨(Su l i x).1,2,(i:Int),(Su l i x).2⟩:pr)|none=>u4) l.Tables.length with
    |some v=>v
    |none=>
     if 4<a00 l.e then⟨4,3,4,0⟩
     else(ff (λi=>match l.e[i]? with|some x=>if(wq l i x).1=0 then u4 else M (le3 i (wq l i x))|none=>u4) l.e.length).getD ⟨0,0,0,0⟩
theorem kB{f:Nat->Option pr}(hf:∀{k v},f k=M v->v.Code≠0) {v:pr}(h:ff f n=M v):v.Code≠0:=by
 grind[Vb]
theorem iV{l:ej}{v:pr}(h:(match l.z[k]? with|some x=>if(ym l k x).1=0 then u4 else M (⟨(ym l k x).1,1,(k:Int),(ym l k x).2⟩:pr)|none=>u4)=M v):v.Code≠0:=by
 grind
theorem HW{l:ej}{v:pr}(h:(match l.Tables[k]? with|some x=>if(Su l k x).1=0 then u4 else M (⟨(Su l k x).1,2,(k:Int),(Su l k x).2⟩:pr)|none=>u4)=M v):v.Code≠0:=by
 grind
theorem Nk{l:ej}(h:p? l):Yl l=M (yq l):=by
 have hne:=h.ne;have hnt:=h.nt;have hns:=h.ns;have le:ja (rj l) 0=M (Aj () (ff (λi=>match l.z[i]? with|some x=>if(ym l i x).1=0 then u4 else M (⟨(ym l i x).1,1,(i:Int),(ym l i x).2⟩:pr)|none=>u4) l.z.length)):=
  Ji (λk=>(k:Int)) _ _ _ (λk hk _=>by
   unfold rj;rw[J,Ma hk,b?,kH h hk,b?,x! hk,Ha U];dsimp only;by_cases a:(ym l k l.z[k]).1=0
   .rw[s7,J a];rfl
   .rw[J a,s7 a];rfl) (λ_=>by grind[rj])
 have ls:ja (fi l) 0=M (Aj () (ff (λi=>match l.e[i]? with|some x=>if(wq l i x).1=0 then u4 else M (le3 i (wq l i x))|none=>u4) l.e.length)):=
  Ji (λk=>(k:Int)) _ _ _ (λk hk _=>by
   unfold fi;rw[J,QF h hk,b?,x! hk,Ha U];dsimp only;by_cases a:(wq l k l.e[k]).1=0
   .rw[s7,J a];rfl
   .rw[J a,s7 a];rfl) (λ_=>by grind[fi])
 unfold Yl Br dq bq yq;by_cases b:8<a00 l.z
 .grind
 rw[s7,s7 b,le]
 cases c:ff (λi=>match l.z[i]? with|some x=>if(ym l i x).1=0 then u4 else M (⟨(ym l i x).1,1,(i:Int),(ym l i x).2⟩:pr)|none=>u4) l.z.length with
 |some v=>
  have:=kB (f:=λi=>match l.z[i]? with|some x=>if(ym l i x).1=0 then u4 else M (⟨(ym l i x).1,1,(i:Int),(ym l i x).2⟩:pr)|none=>u4) iV c
  simp_all[Aj]
 |none=>
  simp only[Aj,b?];rw[s7 p6];by_cases b:8<a00 l.Tables
  .grind
  rw[s7,s7 b,U4 h]
  cases d:ff (λi=>match l.Tables[i]? with|some x=>if(Su l i x).1=0 then u4 else M (⟨(Su l i x).1,2,(i:Int),(Su l i x).2⟩:pr)|none=>u4) l.Tables.length with
  |some v=>
   have:=kB (f:=λi=>match l.Tables[i]? with|some x=>if(Su l i x).1=0 then u4 else M (⟨(Su l i x).1,2,(i:Int),(Su l i x).2⟩:pr)|none=>u4) HW d
   simp_all[Aj]
  |none=>
   simp only[Aj,b?];rw[s7 p6];by_cases b:4<a00 l.e
   .grind
   rw[s7,s7 b,ls];cases ff (λi=>match l.e[i]? with|some x=>if(wq l i x).1=0 then u4 else M (le3 i (wq l i x))|none=>u4) l.e.length<;>rfl
structure N! (l:ej):Prop where
 e:∀i (h:i<a00 l.z),(ym l i l.z[i]).1=0
 t:∀i (h:i<a00 l.Tables),(Su l i l.Tables[i]).1=0
 s:∀i (h:i<a00 l.e),(wq l i l.e[i]).1=0
 ne:l.z.length<=8
 nt:l.Tables.length<=8
 ns:l.e.length<=4
theorem aL{l:ej}(h:(yq l).Code=0):N! l:=by
 unfold yq at h;split at h
 .grind
 rename_i h1;split at h
 .rename_i v hv;exact(kB (f:=λi=>match l.z[i]? with|some x=>if(ym l i x).1=0 then u4 else M (⟨(ym l i x).1,1,(i:Int),(ym l i x).2⟩:pr)|none=>u4) iV hv h).elim
 rename_i he;split at h
 .grind
 rename_i h2;split at h
 .rename_i v hv;exact(kB (f:=λi=>match l.Tables[i]? with|some x=>if(Su l i x).1=0 then u4 else M (⟨(Su l i x).1,2,(i:Int),(Su l i x).2⟩:pr)|none=>u4) HW hv h).elim
 rename_i ht;split at h
 .grind
 rename_i h3;refine⟨λi hi=>?_,λi hi=>?_,λi hi=>?_,U,U,U⟩
 .grind[Mb]
 .grind[Mb]
 .generalize hf:ff _ l.e.length=o at h
  cases o with
  |some v=>
   rw[aah]at h;obtain⟨k,c,a,-⟩:=Vb.1 hf;rw[x! c]at a;dsimp only at a;split at a
   .grind
   .rename_i b;injection a with a;subst a;exact(b h).elim
  |none=>
   grind[Mb]
theorem N!.rows{l:ej}(h:N! l):∀x∈l.Tables,a00 x.Rows<=64:=by
 intro x hx;obtain⟨i,hi,rfl⟩:=O' hx;have:=h.t i hi
 grind[Su,Tu]
theorem GD(hn:n<=1048576) (bad:Nat->Bool) {step:Int->Option (Ex Int Unit Bool)}(a:∀i:Nat,i<n->step (i:Int)=if bad i=a29 then M (.ret a30)else M (.go (aa .i64 ((i:Int)+1)))) (b:step (n:Int)=M (.brk ())) :
 (ja step 0=M (.inr a30))\/(ja step 0=M (.inl ())/\∀i,i<n->bad i=a30):=by
 have h:=Ji (step:=step) (x0:=0) (λi=>(i:Int)) (λi=>if bad i=a29 then M a30 else u4) n () (λi hi _=>by
  rw[a i hi,Ha U];cases bad i<;>rfl) (λ_=>b)
 cases hf:ff (λi=>if bad i=a29 then M a30 else u4) n with
 |none=>
  right;rw[hf]at h;refine⟨h,λi hi=>?_⟩
  grind[Mb]
 |some v=>
  left;rw[hf]at h;obtain⟨k,-,c,-⟩:=Vb.1 hf;split at c
  .injection c with c;subst c;exact h
  grind
structure ab1 (s:fr):Prop where
 nm:s.q.size<=80
 ins:s.ad.length<=14
 defs:s.f.length<=14
 rules:s.n.length<=60
 i:∀f∈s.ad,f.q.size<=80
 d:∀f∈s.f,f.q.size<=80
 r:∀r∈s.n,r.q.size<=80/\r.be.size<=80/\r.ak.length<=50/\r.Value.length<=50
variable {s:fr}
theorem VE(s:fr):∃b,kh s=M b/\(b=a29->ab1 s):=by
 unfold kh;by_cases h1:80<(s.q.size:Int)
 .simp_all
 by_cases h2:14<(a00 s.ad:Int)
 .simp_all
 by_cases h3:14<(a00 s.f:Int)
 .simp_all
 by_cases h4:60<(a00 s.n:Int)
 .simp_all
 have hc:(if¬80<(s.q.size:Int)then if¬14<(a00 s.ad:Int)then if¬14<(a00 s.f:Int)then M (D1 (60<(a00 s.n:Int)))else M a29 else M a29 else M a29)=M a30:=by
  grind
 rw[hc,b?,s7 p6];rcases GD (n:=a00 s.ad) U (λi=>match s.ad[i]? with|some f=>D1 (80<(f.q.size:Int))|none=>a30) (step:=wi s) (λi hi=>by
  grind[wi,Ma]) (by grind[wi])with k|⟨k,k1⟩
 .grind
 rw[k,b?];dsimp only;rcases GD (n:=a00 s.f) U (λi=>match s.f[i]? with|some f=>D1 (80<(f.q.size:Int))|none=>a30) (step:=vi s) (λi hi=>by
  grind[vi,Ma]) (by grind[vi])with k|⟨k,k2⟩
 .grind
 rw[k,b?];dsimp only;rcases GD (n:=a00 s.n) U (λi=>match s.n[i]? with|some r=>D1 (80<(r.q.size:Int)\/80<(r.be.size:Int)\/50<(a00 r.ak:Int)\/50<(a00 r.Value:Int))|none=>a30) (step:=ui s) (λi hi=>by
  unfold ui;rw[J,Ma hi,b?,x! hi]
  grind) (by grind[ui])with k|⟨k,k3⟩
 .grind
 rw[k,b?];refine⟨a29,rfl,λ_=>⟨U,U,U,U,?_,?_,?_⟩⟩
 .intro f hf;obtain⟨i,hi,rfl⟩:=O' hf
  grind
 .intro f hf;obtain⟨i,hi,rfl⟩:=O' hf
  grind
 .intro r hr;obtain⟨i,hi,rfl⟩:=O' hr
  grind
def Ou(l:ej):Nat->Int
 |0=>0
 |k+1=>match l.Tables[k]? with|some t=>aa .i64 (Ou l k+(a00 t.Rows:Int))|none=>Ou l k
structure Θ (l:ej):Prop where
 ne:l.z.length<=9
 nt:l.Tables.length<=9
 ns:l.e.length<=5
 e:∀x∈l.z,x.q.size<=80/\x.w.length<=20/\∀m∈x.w,m.size<=80
 t:∀x∈l.Tables,x.q.size<=80
 s:∀x∈l.e,ab1 x
 rt:∀i,i<a00 l.Tables->Ou l (i+1)<=150
variable {l:ej}
def zB(l:ej):Nat->Int
 |0=>0
 |k+1=>match l.e[k]? with|some t=>aa .i64 (zB l k+(a00 t.n:Int))|none=>zB l k
def zaa(l:ej) (i:Nat):Bool:=match l.z[i]? with|some x=>D1 (80<(x.q.size:Int)) || D1 (20<(a00 x.w:Int)) || (x.w.any λm=>D1 (80<(m.size:Int)))|none=>a30
theorem YQ(hi:i<a00 l.z):zaa l i=(D1 (80<(l.z[i].q.size:Int)) || D1 (20<(l.z[i].w.length:Int)) || (l.z[i].w.any λm=>D1 (80<(m.size:Int)))):=by
 grind[zaa]
theorem wH(l:ej):∃b,Wp l=M b/\(b=a29->Θ l):=by
 unfold Wp;by_cases h1:9<(a00 l.z:Int)
 .simp_all
 by_cases h2:9<(a00 l.Tables:Int)
 .simp_all
 by_cases h3:5<(a00 l.e:Int)
 .simp_all
 have hc:(if¬9<(a00 l.z:Int)then if¬9<(a00 l.Tables:Int)then M (D1 (5<(a00 l.e:Int)))else M a29 else M a29)=M a30:=by
  grind
 rw[hc,b?,s7 p6];have d:∀i (hi:i<a00 l.z),l.z[i].w.length<=20->ja (Th l (i:Int)) 0=M (if(l.z[i].w.any λm=>D1 (80<(m.size:Int)))=a29 then .inr (.ret a30)else .inl ()):=by
  intro i hi hm;have h:=Ji (step:=Th l (i:Int)) (x0:=0) (λk=>(k:Int)) (λk=>if(l.z[i].w[k]?.any λm=>D1 (80<(m.size:Int)))=a29 then M (v? a30)else u4) l.z[i].w.length () (λk hk _=>by
   unfold Th;rw[Ma hi,b?,J,Ma hk,b?,x! hk,Ha U];simp only[Option.any_some,R2];by_cases hb:80<(l.z[i].w[k].size:Int)
   .rw[J hb,J hb];rfl
   .rw[s7 hb,s7 hb];rfl) (λ_=>by grind[Th,Ma])
  rw[h,←OO (g:=λ_=>(v? a30:Ex Int Unit Bool))]
  cases hf:ff (λk=>if(l.z[i].w[k]?.any λm=>D1 (80<(m.size:Int)))=a29 then M (v? a30:Ex Int Unit Bool)else u4) l.z[i].w.length with
  |none=>rfl
  |some v=>
   obtain⟨k,-,e,-⟩:=Vb.1 hf;split at e
   .injection e with e;subst e;rfl
   grind
 rcases GD (n:=a00 l.z) U (zaa l) (step:=Jj l) (λi hi=>by
  have d:=d i hi;unfold Jj;rw[J,Ma hi,b?,YQ hi]
  grind) (by grind[Jj])with k|⟨k,k1⟩
 .grind
 rw[k,b?];dsimp only;have p:=Ji (step:=Ij l) (x0:=(0,0)) (λi=>(Ou l i,(i:Int))) (λi=>match l.Tables[i]? with|some x=>if(D1 (80<(x.q.size:Int)) || D1 (150<Ou l (i+1)))=a29 then M a30 else u4|none=>u4) l.Tables.length () (λi hi _=>by
  unfold Ij;simp only[Ou,x! hi];rw[J,Ma hi,b?,Ha U]
  grind[qL]) (λ_=>by grind[Ij])
 rw[p,b?]
 cases hf:ff (λi=>match l.Tables[i]? with|some x=>if(D1 (80<(x.q.size:Int)) || D1 (150<Ou l (i+1)))=a29 then M a30 else u4|none=>u4) l.Tables.length with
 |some v=>
  refine⟨a30,?_,p6⟩;obtain⟨j,o,a,-⟩:=Vb.1 hf;rw[x! o]at a;dsimp only at a;split at a
  .injection a with a;subst a;rfl
  grind
 |none=>
  have ht2:=Mb.1 hf;dsimp only[Aj];have hS:=Ji (step:=Hj l) (x0:=(0,0)) (λi=>(zB l i,(i:Int))) (λi=>match l.e[i]? with|some x=>if(D1 (60<zB l (i+1)) || !((kh x).getD a29))=a29 then M a30 else u4|none=>u4) l.e.length () (λi hi _=>by
   unfold Hj;simp only[zB,x! hi];rw[J,Ma hi,b?,Ha U];obtain⟨b,hb,-⟩:=VE l.e[i]
   grind[qL]) (λ_=>by grind[Hj])
  rw[hS,b?]
  cases c:ff (λi=>match l.e[i]? with|some x=>if(D1 (60<zB l (i+1)) || !((kh x).getD a29))=a29 then M a30 else u4|none=>u4) l.e.length with
  |some v=>
   refine⟨a30,?_,p6⟩;obtain⟨j,o,a,-⟩:=Vb.1 c;rw[x! o]at a;dsimp only at a;split at a
   .injection a with a;subst a;rfl
   grind
  |none=>
   have f:=Mb.1 c;refine⟨a29,rfl,λ_=>⟨U,U,U,?_,?_,?_,λi hi=>?_⟩⟩
   .intro x hx;obtain⟨i,hi,rfl⟩:=O' hx
    grind[YQ]
   .intro x hx;obtain⟨i,hi,rfl⟩:=O' hx
    grind
   .intro x hx;obtain⟨i,hi,rfl⟩:=O' hx;have:=f i hi;rw[x! hi]at this;dsimp only at this;split at this
    .cases this
    .rename_i hn;obtain⟨b,hb,hb2⟩:=VE l.e[i]
     grind
   grind
theorem FN{l:ej}(hr:∀t∈l.Tables,a00 t.Rows<=1125899906842624) (hn:l.Tables.length<=9):∀n,n<=a00 l.Tables->0<=Ou l n/\Ou l n<=1125899906842624*n/\∀i (hi:i<a00 l.Tables),i<n->(l.Tables[i].Rows.length:Int)<=Ou l n
 |0,_=>by simp[Ou]
 |n+1,h=>by
  obtain⟨h1,h2,h3⟩:=FN hr hn n U
  grind[Ou,m?]
theorem Θ.rows(h:Θ l) (hr:∀t∈l.Tables,a00 t.Rows<=1125899906842624):∀t∈l.Tables,a00 t.Rows<=150:=by
 intro t ht;obtain⟨i,hi,rfl⟩:=O' ht;obtain⟨-,-,a⟩:=FN hr h.nt (i+1) hi;have:=a i hi U;have:=h.rt i hi;omega
def cX(l:ej):Prop:=∀s∈l.e,∀r∈s.n,(∀n∈r.ak,Pd n)/\∀n∈r.Value,Pd n
theorem Θ.ok(h:Θ l) (ht:cX l):p? l:=by
 have hne:=h.ne;have hnt:=h.nt;have hns:=h.ns;refine⟨U,U,U,λx hx=>?_,λx hx=>?_,λx hx=>?_⟩
 .obtain⟨a,b,c⟩:=h.e x hx
  grind
 .have:=h.t x hx;omega
 .obtain⟨a,b,c,d,e,f,g⟩:=h.s x hx;refine⟨U,⟨U,U,λr hr=>s5⟩,U,λq hq=>s5,λq hq=>s5,λr hr=>?_⟩;have:=g r hr;obtain⟨t1,t2⟩:=ht x hx r hr
  grind
end Go.Proofs.Dev
