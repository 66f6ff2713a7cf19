/-
  Contracts by hand: the conditions stand in each.
-/
import Derived.Test.YtmhfebelfmgckaaGreatDoorC3
import Derived.Test.YtmhfebelfmgckaaGreatDoorPD
import Derived.Test.YtmhfebelfmgckaaGreatDoorC0
import Derived.Test.YtmhfebelfmgckaaGreatDoorC1
import Derived.Test.YtmhfebelfmgckaaGreatDoorC2
open Bool renaming true->a35,false->a36
open Option renaming some->M,none->q6
open Decidable renaming decide->s5
open Go.Tm.Ent renaming live->k?
open And renaming intro->ak
open Go.Proofs.Tryz renaming prog->al
open Eq renaming trans->I?
open List renaming getD_cons_succ->Κ,getD_cons_zero->dab,getElem?_eq_getElem->n!,map_set->Vac,replicate_succ->Ψ,length->a00
open Nat renaming le_refl->x?
open Option renaming map_eq_some_iff->A'
set_option linter.all false
set_option maxHeartbeats 1000000
namespace Go.Tm
variable {S N:Nat}{x:Operand}{lo hi:Option Operand}{dst:Option Tmp}{i:I}{l:List RI}{K:Exit->St->Prop}{A B:Prop}
section
variable {P:Program} {G:Gh} {w:World} {a:Act} {s:St} {d:D} {m':List Ent}
def Y5(P:Program):Nat->List RI->(St->Prop)->St->Prop
 |0,.op dst q6 (.slice S x lo hi q6)::l,K,s=>Fv (fa s (.trunc S x lo hi)) (KO (Rj P l K) s dst)
 |n+1,.op dst q6 i::l,K,s=>Fv (fa s i) (KO (Y5 P n l K) s dst)
 |_,_,_,_=>False
theorem GU{op:Op}(h:EK P op=M (.slice S x lo hi q6)) :
 ∃t e i,op=.slice t x lo hi q6/\P.underlying t=M (.slice e)/\P.info? e=M i/\S=i.size:=by
 unfold EK at h;split at h
 all_goals (try (simp at h;done))
 all_goals (try ((repeat' split at h)<;>(try (simp at h;done))))
 all_goals (try (simp only[A',reduceCtorEq,and_false,exists_false]at h;done))
 all_goals (try (simp only[A',I.slice.injEq]at h;grind))
theorem bz2{ops:Array Oper}{o:Oper}(h:Rt P ops o=M (.op dst q6 i)):o.dst=dst/\M? ops o.guard=M q6/\Sw P ops o o.op=M i:=by
 unfold Rt at h;split at h
 .cases h
 .rename_i g hg;split at h
  .cases h
  .simp only[A']at h
   grind
theorem PO{ops:Array Oper}{Q:Exit->Act->World->Prop}{K:St->Prop}:∀{n:Nat}{l:List Oper}{rl:List RI}{s:St}{G:Gh}{w:World}{a:Act},Ni P ops l=M rl->Y5 P n rl K s->p! G w a s->
 (∀s' G' w' a',K s'->p! G' w' a' s'->Step G w s.m G' w' s'.m->Q .normal a' w')->wpList P ops Q l a w
 |n,[],rl,s,G,w,a,hc,h,hr,hQ=>by
  simp only[Ni]at hc;injection hc with hc;subst hc;cases n<;>exact h.elim
 |n,o::l,rl,s,G,w,a,hc,h,hr,hQ=>by
  simp only[Ni]at hc;split at hc
  case h_2=>grind
  rename_i r rs D h2;injection hc with hc;subst hc
  cases r with
  |call dst g f args=>cases n<;>exact h.elim
  |op dst g i=>
   cases g with
   |some g=>cases n<;>exact h.elim
   |none=>
    obtain⟨rfl,A,hi⟩:=bz2 D;obtain⟨b,-⟩:=Lr hr A;rw[wpList,J (b rfl o rfl)];refine .inl ?_
    cases n with
    |zero=>
     cases i with
     |slice S x lo hi' mx=>
      cases mx with
      |some _=>exact h.elim
      |none=>
       obtain⟨d,m',he,p⟩:=(Pp _ _).1 h;have A:p? G w s.m ((execOp a.eval o).run P w) d m':=by
        unfold Sw at hi;split at hi
        .rename_i i' c;injection hi with hi;subst hi;unfold NF at c;split at c
         .split at c
          .split at c
           all_goals simp_all
          simp_all
         simp_all
        .obtain⟨t,e,i,ho,ht,hin,rfl⟩:=GU hi
         grind[L2]
       exact hr.jx A λG' w' u q v=>pH h2 (Sy p) q λy j z k B C k3=>hQ y j z k B C (v.trans (by grind[iL]))
     |_=>exact h.elim
    |succ n=>
     obtain⟨d,m',he,p⟩:=(Pp _ _).1 h;exact hr.jx (iF hi hr he) λG' w' u q v=>PO h2 p q λy j z k B C k3=>hQ y j z k B C (v.trans (by grind[iL]))
theorem T.regC(n:Nat) {s:St}(h:Y5 P n l (K .normal) s):T P N (.sT l) K s:=by
 intro code hc G w a hN hr;obtain⟨id,ops,rfl,b⟩:=HU hc;exact wp_region_list (PO b h hr λs' G' w' a' c h2 d=>⟨s',G',c,h2,d.toN hN⟩)
def bt0{K:St->Prop}:Y5 P 0 (.op dst q6 (.slice S x lo hi q6)::l) K s=Fv (fa s (.trunc S x lo hi)) (KO (Rj P l K) s dst):=d?
theorem bs9{n:Nat}{K:St->Prop}:Y5 P (n+1) (.op dst q6 i::l) K s=Fv (fa s i) (KO (Y5 P n l K) s dst):=by cases i<;>rfl
def EA(P:Program):List RI->(St->Prop)->St->Prop
 |[],K,s=>K s
 |.op dst g i::l,K,s=>
  match j! s g with
  |none=>False
  |some q6=>Fv (fa s i) (KO (EA P l K) s dst)
  |some (M (c,b))=>if c=b then Fv (fa s i) (KO (EA P l K) s dst)else EA P l K (s.put dst (.v undef))
 |.call dst g f args::l,K,s=>
  match j! s g with
  |none=>False
  |some q6=>(match s.ec f with|.fn k first caps=>kg P k (first++args.map s.ev++caps) s.m (KO (EA P l K) s dst)|_=>False)
  |some (M (c,b))=>if c=b then(match s.ec f with|.fn k first caps=>kg P k (first++args.map s.ev++caps) s.m (KO (EA P l K) s dst)|_=>False)else EA P l K (s.put dst (.v undef))
theorem YE:∀{l:List RI}{K:St->Prop}{s:St},EA P l K s->Ym P l K s
 |[],K,s,h=>h
 |.op dst g i::l,K,s,h=>by
  simp only[EA]at h;simp only[Ym];split at h
  .simp_all
  .rename_i a;obtain⟨d,m',j,h2⟩:=(Pp _ _).1 h;rw[a];exact⟨d,m',j,YE h2⟩
  .rename_i c b a;rw[a];refine⟨λhc=>?_,λhc=>?_⟩
   .rw[J hc]at h;obtain⟨d,m',j,h2⟩:=(Pp _ _).1 h;exact⟨d,m',j,YE h2⟩
   .rw[p5 hc]at h;exact YE h
 |.call dst g f args::l,K,s,h=>by
  simp only[EA]at h;simp only[Ym];split at h
  .simp_all
  .rename_i a;split at h
   .rename_i k first caps hf
    rw[hf];dsimp only;rw[a];exact h.mono λd m' e=>YE e
   simp_all
  .rename_i c b a;by_cases hc:c=b
   .rw[J hc]at h;split at h
    .rename_i k first caps hf
     rw[hf];dsimp only;rw[a];exact⟨λ_=>h.mono λd m' e=>YE e,λhn=>(hn hc).elim⟩
    simp_all
   .rw[p5 hc]at h;cases s.ec f<;>dsimp only<;>rw[a]<;>first|exact⟨hc,YE h⟩|exact⟨λhn=>(hc hn).elim,λ_=>YE h⟩
def gE(d:D) (b:Bool) (A B:Prop):Prop:=
 match d with
 |.v (.bool c)=>if c=b then A else B
 |.v _=>if(!b)=b then A else B
 |_=>False
@[congr] theorem ck2{d d':D} {b:Bool} {A B:Prop} (h:d=d'):gE d b A B=gE d' b A B:=by rw[h]
theorem cv2:gE (.v (.bool a35)) a35 A B=A:=by simp[gE]
theorem cv3:gE (.v (.bool a36)) a36 A B=A:=by simp[gE]
theorem ck0:gE (.v (.bool a35)) a36 A B=B:=by simp[gE]
theorem ck1:gE (.v (.bool a36)) a35 A B=B:=by simp[gE]
def AU(P:Program) (d:D) (ds:List D) (m:List Ent) (f:D->List Ent->Prop):Prop:=match d with|.fn k first caps=>kg P k (first++ds++caps) m f|_=>False
@[congr] theorem aY5{d d':D} {ds ds':List D} {m m':List Ent} {f:D->List Ent->Prop} (h:d=d') (h2:ds=ds') (h3:m=m'):AU P d ds m f=AU P d' ds' m' f:=l4
def aQ3{k:Nat}{a c ds:List D}{m:List Ent}{f:D->List Ent->Prop}:AU P (.fn k a c) ds m f=kg P k (a++ds++c) m f:=d?
section
variable {dst:Option Tmp} {i:I} {l:List RI} {K:St->Prop} {g:Nat×Bool} {f:χ} {args:List Operand}
def aw5:EA P [] K s=K s:=d?
def aS3:EA P (.op dst q6 i::l) K s=Fv (fa s i) (KO (EA P l K) s dst):=d?
theorem N2:(match j! s (M g)with|none=>False|some q6=>A|some (M (c,b))=>if c=b then A else B)=gE (s.t.getD g.1 .dead) g.2 A B:=by
 obtain⟨t,b⟩:=g;simp only[j!,gE]
 grind
theorem aw4:EA P (.op dst (M g) i::l) K s=gE (s.t.getD g.1 .dead) g.2 (Fv (fa s i) (KO (EA P l K) s dst)) (EA P l K (s.put dst (.v undef))):=by
 rw[←N2,EA]
theorem aS4:EA P (.call dst q6 f args::l) K s=AU P (s.ec f) (args.map s.ev) s.m (KO (EA P l K) s dst):=d?
def aw6:EA P (.call dst (M g) f args::l) K s=gE (s.t.getD g.1 .dead) g.2 (AU P (s.ec f) (args.map s.ev) s.m (KO (EA P l K) s dst)) (EA P l K (s.put dst (.v undef))):=I? rfl N2
def zD:=(ak (ak (ak @aw5 @aS3) (ak @aw4 @aS4)) (ak (ak @aw6 @aQ3) (ak (ak @cv2 @cv3) (ak @ck0 @ck1))))
end
def T.iG{s:St}(h:EA P l (K .normal) s):T P N (.sT l) K s:=T.sT (YE h)
end
end Go.Tm
set_option maxRecDepth 10000
namespace Go.Proofs.Dev
open Go Go.Tm
variable {N i j v u k n:Nat}{t:List D}{m R:List Ent}{l:List Int}{y:TypeId×FuncId×Option (Bool×Nat)}{s:St}
theorem cr3{K:Exit->St->Prop}{e:Exit}{t':List D}{g:List Ent}(c:ua t t') (hN:N<=a00 m) (ht:j? m.length t'=a35) (hm:m.all (Ent.below m.length)=a35) (h:K e ⟨t',m⟩):bU N K e ⟨t,m++g⟩:=
 λG w a b hr=>by
  obtain⟨G',k1,k2⟩:=sU (At.mk t t' m g c) ⟨hN,ht,hm⟩ G w a b hr
  grind
theorem DM(hi:i<a00 l) (hj:j<a00 l) :
 CallT al 524 [.own 1 v,da i,da j] (k? 1 u [.own 1 v]::k? 1 v (l.map da)::R) λd m'=>d=.v (.bool (s5 (l[i]<l[j])))/\m'=k? 1 u [.own 1 v]::k? 1 v (l.map da)::R:=by
 refine Nn bi2.ok bi2.nm ?_;simp only[bi2,Kf.of,zs,ze,Ψ];have g1:l[i]?=M l[i]:=n! hi;have g2:l[j]?=M l[j]:=n! hj;refine ss (rg ?_);simp only[zz];refine ss (dy rz ?_);simp only[zz,zy,g1,g2,hi,hj];exact rt ⟨_,rfl,rfl,rfl⟩
theorem bt2{x:Int}(hl:(a00 l+1)*8<=2 ^ 47) (a:R.all (Ent.below (a00 R+2))=a35) :
 CallT al 526 [.ref 0 u 0 0,.ifc 3 (da x)] (k? 1 u [.own 1 v]::k? 1 v (l.map da)::R) λd m'=>d=.tup []/\m'=k? 1 u [.own 1 (v+1)]::k? 1 (v+1) ((l++[x]).map da)::R:=by
 refine Nn bi0.ok bi0.nm ?_;simp only[bi0,Kf.of,zs,ze,Ψ];refine T.clo ?_;refine ss (rg ?_);simp only[zz];refine ss (rg ?_);simp only[zz];refine cd rfl ?_;simp only[zz];refine rg ?_;simp only[zz,List.getElem?_concat_length,hl];refine cr3 (t':=ds 20 []) (m:=k? 1 u [.own 1 (v+1)]::k? 1 (v+1) ((l.map da)++[da x])::R) (by repeat (first|exact ua.Ab _|refine ua.cons (q'.Qa _) ?_)) l5 rfl ?_ ⟨_,rfl,rfl,?_⟩
 .simp only[List.all_cons,Bool.and_eq_true,List.length_cons];refine⟨?_,Sb _ _ ?_,a⟩
  .simp_all[Ent.below,j?,Tm.below]
  .exact ao3 (Fr.l _) rfl
 simp
theorem FM(hi:i<a00 l) (hj:j<a00 l) :
 CallT al 527 [.own 1 v,da i,da j] (k? 1 u [.own 1 v]::k? 1 v (l.map da)::R) λd m'=>d=.tup []/\m'=k? 1 u [.own 1 v]::k? 1 v (((l.set i l[j]).set j l[i]).map da)::R:=by
 refine Nn bh9.ok bh9.nm ?_;simp only[bh9,Kf.of,zs,ze,Ψ];have g1:l[i]?=M l[i]:=n! hi;have g2:l[j]?=M l[j]:=n! hj;simp only[zz];refine ay rz [[],[],[],[],[],[],[],[],[],[],[],[],[],[]] U? ?_;have g3:((l.map da).set i (D.v (Value.int IntKind.i64 l[j])))[j]?=M (.v (.int .i64 ((l.set i l[j])[j]' l4))):=by
  rw[show(D.v (Value.int IntKind.i64 l[j]))=da l[j]from rfl,←Vac,List.getElem?_map,n! l4];rfl
 have g4:j<((l.map da).set i (D.v (Value.int IntKind.i64 l[j]))).length:=l4
 simp only[zz,zy,g1,g2,g3,g4,hi,hj];refine⟨_,rfl,rfl,?_⟩;rw[Vac,Vac];rfl
theorem aw7:
 CallT al 322 [.own 1 v] (k? 1 u [.own 1 v]::k? 1 v (l.map da)::R) λd m'=>d=da l.length/\m'=k? 1 u [.own 1 v]::k? 1 v (l.map da)::R:=by
 refine Nn bj4.ok bj4.nm ?_;simp only[bj4,Kf.of,zs,ze,Ψ];refine ss (rg ?_);simp only[zz];refine ss (rg ?_);simp only[zz];exact rt ⟨_,rfl,rfl,rfl⟩
theorem cq5{x:Int}(hl:l.length<1000000000) (hR:R.all (Ent.below (a00 R+2))=a35) :
 CallT al 525 [.ref 0 u 0 0] (k? 1 u [.own 1 v]::k? 1 v ((l++[x]).map da)::R) λd m'=>d=.ifc 3 (da x)/\m'=k? 1 u [.own 1 (v+1)]::k? 1 (v+1) (l.map da)::R:=by
 refine Nn bi1.ok bi1.nm ?_;simp only[bi1,Kf.of,zs,ze,Ψ];refine ss (rg ?_);simp only[zz];refine ss (rg ?_);simp only[zz];have a:aa .i64 (((a00 l+1:Nat):Int)-1)=(a00 l:Int):=by grind[BA]
 have h2:(l++[x])[a00 l]?=M x:=l5
 have b:l.length<a00 l+1:=U
 refine ss (rg ?_);simp only[zz,a,h2,b];refine ss (T.regC 5 ?_);simp only[bs9,bt0,zz,a,h2,b];refine⟨U,?_⟩;refine ss (rg ?_);simp only[zz];refine rt ⟨_,rfl,rfl,?_⟩;simp
section
variable {l:List Int} {v u:Nat} {R:List Ent}
def ZD(l:List Int) (v u:Nat) (R:List Ent):List Ent:=k? 1 u [.own 1 v]::k? 1 v (l.map da)::R
theorem CB:aL (k? 1 u [.own 1 v]::R) [(334,k,M (a36,1)),y] (.ifc 334 (.ref 0 u 0 0))=.fn k [.own 1 v] []:=by
 simp_all[aL,fa,St.ev,D.ok,Tm.part,sJ]
theorem al8{x:TypeId×FuncId×Option (Bool×Nat)}(hx:(334==x.1)=a36):aL (k? 1 u [.own 1 v]::R) [x,(334,k,M (a36,1)),y] (.ifc 334 (.ref 0 u 0 0))=.fn k [.own 1 v] []:=by
 simp[aL,List.lookup,fa,St.ev,D.ok,sJ,hx,Tm.part]
theorem al7:aL m [(334,k,q6)] (.ifc 334 (.ref 0 u 0 0))=.fn k [.ref 0 u 0 0] []:=rfl
def Dn{r:Operand}{tb:List (TypeId×FuncId×Option (Bool×Nat))}:s.ec (.meth r tb)=aL s.m tb (s.ev r):=rfl
def K1:s.ec (.func k)=.fn k [] []:=rfl
theorem EF{l:List Int}(hR:R.all (Ent.below (a00 R+2))=a35) (hN:N<=a00 R+2) (ht:j? (a00 R+2) t=a35):δ N ⟨t,ZD l v u R⟩:=by
 refine⟨hN,ht,?_⟩
 simp_all[ZD,Ent.below,j?,Tm.below,Sb,Fr.l]
theorem WI{l:List Int}(hi:i<a00 l) (hj:j<a00 l):(l.set i l[j]).set j l[i]=Υ l i j:=by grind[Υ,En]
theorem cr4{l:List Int}{v:Nat}{u:Nat}{R:List Ent}(p:R.all (Ent.below (a00 R+2))=a35) (hj:j<a00 l) (hl:l.length<1000000000) (hu:HpU l j) :
 CallT al 359 [.ifc 334 (.ref 0 u 0 0),da j] (ZD l v u R) λd m'=>d=.tup []/\∃l',l'.Perm l/\Hp l' l'.length/\m'=ZD l' v u R:=by
 refine Nn bi7.ok bi7.nm ?_;simp only[bi7,Kf.of,zs,ze,Ψ];refine T.clo ?_;refine T.vU (X:=List Int×Nat) (λy=>⟨.ifc 334 (.ref 0 u 0 0)::da y.2::ds 21 [],ZD y.1 v u R⟩) (λy=>y.2<a00 y.1/\y.1.Perm l/\HpU y.1 y.2) (λy=>y.1.Perm l/\Hp y.1 y.1.length) (λy=>y.2) (l,j) ⟨hj,.refl _,hu⟩ (At.same _ _ _ (ua.Ab _)) ?_ ?_ (λ_=>bb4) ?_
 .rintro⟨a,i⟩ -;exact EF p (x? _) (by simp_all[j?,Tm.below,Cn,kp,Nc,Fr.h])
 .rintro⟨a,i⟩ ⟨c,h2,f⟩;dsimp only at c h2 f;have h5:=h2.length_eq;unfold ZD;have hw:aa .i64 ((aa .i64 ((i:Int)-1)).tdiv 2)=(((i-1) / 2:Nat):Int):=by
   rw[BA (n:=(i:Int)-1) ⟨U,U⟩]
   cases i with
   |zero=>rfl
   |succ n=>
    rw[show((n+1:Nat):Int)-1=(n:Int) by omega,show Int.tdiv (n:Int) 2=((n / 2:Nat):Int)from rfl,BA ⟨U,U⟩];simp
  refine bk (ss (rg ?_));simp only[zz,hw];refine ss (ss (T.iG ?_));by_cases o:i=0
  .subst o;have e:((((0-1) / 2:Nat):Int)==0)=a35:=rfl;simp only[zD,zz,dab,Κ,e];refine cd rfl ?_;simp only[zz];refine xt ?_;simp only[zz,Dv];exact⟨(a,0),⟨h2,ab9 f (.inl rfl)⟩,At.same _ _ _ C'⟩
  .have g:¬(((i-1) / 2:Nat):Int)=(i:Int):=U
   have e:((((i-1) / 2:Nat):Int)==(i:Int))=a36:=l4
   have m:(i-1) / 2<a00 a:=U
   simp only[zD,zz,dab,Κ,e,g,Dn,CB];refine Ic (DM c m) ?_;by_cases k:Iw a i<Iw a ((i-1) / 2)
   .have b:s5 (a[i]<a[(i-1) / 2])=a35:=by grind[En]
    simp only[zD,zz,dab,Κ,e,g,b,Wv];refine cd rfl ?_;simp only[zz];refine sk ?_;simp only[zz];refine ss (T.iG ?_);simp only[zD,zz,Dn,CB];refine Ic (FM m c) ?_;simp only[zD,zz];refine rg ?_;simp only[zz,Rs];refine⟨(Υ a ((i-1) / 2) i,(i-1) / 2),⟨by grind[VI],(lF m c).trans h2,bv1 f U c k⟩,U,?_⟩;rw[WI];exact At.same _ _ _ C'
   .have b:s5 (a[i]<a[(i-1) / 2])=a36:=by grind[En]
    simp only[zD,zz,dab,Κ,e,g,b,Wv];refine cd rfl ?_;simp only[zz];refine xt ?_;simp only[zz,Dv];exact⟨(a,i),⟨h2,ab9 f (.inr l4)⟩,At.same _ _ _ C'⟩
 .rintro⟨a,i⟩ ⟨c,h2⟩;exact bU.of ⟨_,rfl,rfl,a,c,h2,rfl⟩
theorem bo6{l:List Int}{v:Nat}{u:Nat}{R:List Ent}(B:R.all (Ent.below (a00 R+2))=a35) (hn:n<a00 l) (hl:l.length<1000000000) (hd:HpD l n 0) :
 CallT al 360 [.ifc 334 (.ref 0 u 0 0),.v (.int .i64 0),da n] (ZD l v u R) λd m'=>(∃b,d=.v (.bool b))/\∃l',l'.Perm l/\Hp l' n/\Iw l' n=Iw l n/\m'=ZD l' v u R:=by
 refine Nn bi6.ok bi6.nm ?_;simp only[bi6,Kf.of,zs,ze,Ψ];refine T.clo ?_;refine ss (rg ?_);simp only[zz];refine ss (rg ?_);simp only[zz];refine ss ?_;refine T.vU (X:=List Int×Nat) (λy=>⟨.ifc 334 (.ref 0 u 0 0)::.v (.int .i64 0)::da n::.dead::.dead::.dead::.v (.bool a36)::da y.2::ds 40 [],ZD y.1 v u R⟩) (λy=>y.2<=n/\y.1.Perm l/\HpD y.1 n y.2/\Iw y.1 n=Iw l n) (λy=>y.1.Perm l/\Hp y.1 n/\Iw y.1 n=Iw l n) (λy=>n-y.2) (l,0) ⟨Nat.zero_le _,.refl _,hd,rfl⟩ (At.same _ _ _ C') ?_ ?_ (λ_=>wA) ?_
 .rintro⟨a,i⟩ -;exact EF B (x? _) (by simp_all[j?,Tm.below,Cn,kp,Nc,Fr.h])
 .rintro⟨a,i⟩ ⟨s,h2,g,p⟩;dsimp only at s h2 g p;have h5:=h2.length_eq;unfold ZD;have C:aa .i64 (2*(i:Int))=((2*i:Nat):Int):=by grind[BA]
  have D:aa .i64 (((2*i:Nat):Int)+1)=((2*i+1:Nat):Int):=by grind[BA]
  have E:aa .i64 (((2*i+1:Nat):Int)+1)=((2*i+2:Nat):Int):=by grind[BA]
  refine bk (ss (rg ?_));simp only[zz,C,D];refine ss (ss (T.iG ?_));by_cases z:n<=2*i+1
  .have t:s5 (((n:Nat):Int)<=((2*i+1:Nat):Int))=a35:=s6 U;simp only[zD,zz,dab,Κ,t];refine cd rfl ?_;simp only[zz];refine xt ?_;simp only[zz,Dv];exact⟨(a,i),⟨h2,q7 g z,p⟩,At.same _ _ _ C'⟩
  .have t:s5 (((n:Nat):Int)<=((2*i+1:Nat):Int))=a36:=u4 U;have w:s5 (((2*i+1:Nat):Int)<0)=a36:=u4 U;have f:i<a00 a:=U
   simp only[zD,zz,dab,Κ,t,w];refine cd rfl ?_;simp only[zz];refine sk ?_;simp only[zz];refine ss (rg ?_);simp only[zz];refine ss (ss (rg ?_));simp only[zz,E];refine ss (T.iG ?_);by_cases x:2*i+2<n
   .have m:s5 (((2*i+2:Nat):Int)<(n:Int))=a35:=s6 U;have q:2*i+1<a00 a:=U
    have r:2*i+2<a00 a:=U
    simp only[zD,zz,dab,Κ,m,Dn,CB];refine Ic (DM (i:=2*i+2) (j:=2*i+1) r q) ?_;by_cases A:Iw a (2*i+2)<Iw a (2*i+1)
    .have o:s5 (a[2*i+2]<a[2*i+1])=a35:=by grind[En]
     have hc:=cA7 x A;have e:=r;simp only[zD,zz,dab,Κ,o];refine cd rfl ?_;simp only[zz];refine rg ?_;simp only[zz];refine ss (ss (T.iG ?_));simp only[zD,zz,Dn,CB];refine Ic (DM (i:=(2*i+2)) (j:=i) e f) ?_;by_cases k:Iw a (2*i+2)<Iw a i
     .have c:s5 (a[(2*i+2)]<a[i])=a35:=by grind[En]
      simp only[zD,zz,c,Wv];refine cd rfl ?_;simp only[zz];refine sk ?_;simp only[zz];refine ss (T.iG ?_);simp only[zD,zz,Dn,CB];refine Ic (FM (i:=i) (j:=(2*i+2)) f e) ?_;simp only[zD,zz];refine rg ?_;simp only[zz,Rs];refine⟨(Υ a i (2*i+2),(2*i+2)),⟨U,(lF f e).trans h2,wS g U hc k,?_⟩,U,?_⟩
      .dsimp only;rw[Wq f e,p5,p5];omega
      rw[WI];exact At.same _ _ _ C'
     .have c:s5 (a[(2*i+2)]<a[i])=a36:=by grind[En]
      simp only[zD,zz,c,Wv];refine cd rfl ?_;simp only[zz];refine xt ?_;simp only[zz,Dv];exact⟨(a,i),⟨h2,dN g hc l4,p⟩,At.same _ _ _ C'⟩
    .have o:s5 (a[2*i+2]<a[2*i+1])=a36:=by grind[En]
     have hc:CmH a n i (2*i+1):=co9 U λ_=>U
     have e:=q;simp only[zD,zz,dab,Κ,o];refine cd rfl ?_;simp only[zz];refine sk ?_;simp only[zz];refine ss (ss (T.iG ?_));simp only[zD,zz,Dn,CB];refine Ic (DM (i:=(2*i+1)) (j:=i) e f) ?_;by_cases k:Iw a (2*i+1)<Iw a i
     .have c:s5 (a[(2*i+1)]<a[i])=a35:=by grind[En]
      simp only[zD,zz,c,Wv];refine cd rfl ?_;simp only[zz];refine sk ?_;simp only[zz];refine ss (T.iG ?_);simp only[zD,zz,Dn,CB];refine Ic (FM (i:=i) (j:=(2*i+1)) f e) ?_;simp only[zD,zz];refine rg ?_;simp only[zz,Rs];refine⟨(Υ a i (2*i+1),(2*i+1)),⟨U,(lF f e).trans h2,wS g U hc k,?_⟩,U,?_⟩
      .dsimp only;rw[Wq f e,p5,p5];omega
      rw[WI];exact At.same _ _ _ C'
     .have c:s5 (a[(2*i+1)]<a[i])=a36:=by grind[En]
      simp only[zD,zz,c,Wv];refine cd rfl ?_;simp only[zz];refine xt ?_;simp only[zz,Dv];exact⟨(a,i),⟨h2,dN g hc l4,p⟩,At.same _ _ _ C'⟩
   .have m:s5 (((2*i+2:Nat):Int)<(n:Int))=a36:=u4 U;have e:2*i+1<a00 a:=U
    have hc:CmH a n i (2*i+1):=co9 U λh=>(x h).elim;simp only[zD,zz,dab,Κ,m];refine cd rfl ?_;simp only[zz];refine sk ?_;simp only[zz];refine ss (ss (T.iG ?_));simp only[zD,zz,Dn,CB];refine Ic (DM (i:=(2*i+1)) (j:=i) e f) ?_;by_cases k:Iw a (2*i+1)<Iw a i
    .have c:s5 (a[(2*i+1)]<a[i])=a35:=by grind[En]
     simp only[zD,zz,c,Wv];refine cd rfl ?_;simp only[zz];refine sk ?_;simp only[zz];refine ss (T.iG ?_);simp only[zD,zz,Dn,CB];refine Ic (FM (i:=i) (j:=(2*i+1)) f e) ?_;simp only[zD,zz];refine rg ?_;simp only[zz,Rs];refine⟨(Υ a i (2*i+1),(2*i+1)),⟨U,(lF f e).trans h2,wS g U hc k,?_⟩,U,?_⟩
     .dsimp only;rw[Wq f e,p5,p5];omega
     rw[WI];exact At.same _ _ _ C'
    .have c:s5 (a[(2*i+1)]<a[i])=a36:=by grind[En]
     simp only[zD,zz,c,Wv];refine cd rfl ?_;simp only[zz];refine xt ?_;simp only[zz,Dv];exact⟨(a,i),⟨h2,dN g hc l4,p⟩,At.same _ _ _ C'⟩
 .rintro⟨a,i⟩ ⟨s,h2,g⟩;unfold ZD;dsimp only at s h2 g;simp only[zz];refine ss (rg ?_);simp only[zz];exact rt (bU.of ⟨_,rfl,⟨_,rfl⟩,a,s,h2,g,rfl⟩)
theorem Q2{l:List Int}{x:Int}{v:Nat}{u:Nat}{R:List Ent}(b:R.all (Ent.below (a00 R+2))=a35) (hl:l.length<100000000) (e:Hp l l.length) :
 CallT al 321 [.ifc 334 (.ref 0 u 0 0),.ifc 3 (da x)] (ZD l v u R) λd m'=>d=.tup []/\∃l',l'.Perm (l++[x])/\Hp l' l'.length/\m'=ZD l' (v+1) u R:=by
 refine Nn bj5.ok bj5.nm ?_;simp only[bj5,Kf.of,zs,ze,Ψ];unfold ZD;refine ss (T.iG ?_);simp only[zD,zz,Dn,al7];refine Ic (bt2 U b) ?_;simp only[zD,zz];refine T.iG ?_;simp only[zD,zz,Dn];rw[al8 rfl];simp only[zD,zz,Dn];refine Ic aw7 ?_;have f:aa .i64 (((a00 l+1:Nat):Int)-1)=((a00 l:Nat):Int):=by grind[BA]
 have a:(l++[x]).length=a00 l+1:=l5
 simp only[zD,zz,a,f,K1];refine SB (cr4 (j:=a00 l) b U U (be8 e)) ?_;rintro d m' ⟨rfl,l',c,h2,rfl⟩;simp only[zD,zz];exact⟨_,rfl,rfl,l',c,h2,rfl⟩
theorem bl6{l:List Int}{v:Nat}{u:Nat}{R:List Ent}(f:R.all (Ent.below (a00 R+2))=a35) (hl:l.length<100000000) (hn:l.length=n+1) (g:Hp l l.length) :
 CallT al 323 [.ifc 334 (.ref 0 u 0 0)] (ZD l v u R) λd m'=>∃x l',d=.ifc 3 (da x)/\(x::l').Perm l/\(∀y∈l',x<=y)/\Hp l' l'.length/\m'=ZD l' (v+1) u R:=by
 refine Nn bj3.ok bj3.nm ?_;simp only[bj3,Kf.of,zs,ze,Ψ];unfold ZD;refine ss (rg ?_);simp only[zz];refine ss (T.iG ?_);simp only[zD,zz,Dn];rw[al8 rfl];simp only[zD,zz,Dn];refine Ic aw7 ?_;have p:aa .i64 (((n+1:Nat):Int)-1)=((n:Nat):Int):=by grind[BA]
 simp only[zD,zz,hn,p];refine ss (T.iG ?_);simp only[zD,zz,Dn,CB];refine Ic (FM (i:=0) (j:=n) U U) ?_;simp only[zD,zz];rw[WI];refine ss (T.iG ?_);simp only[zD,zz,K1];refine SB (bo6 (n:=n) f (by grind[VI]) (by grind[VI]) (by6 g hn)) ?_;rintro d m' ⟨⟨b,rfl⟩,l',h,h2,m,rfl⟩;have e:l'.Perm l:=h.trans (lF U U);have hln:l'.length=n+1:=by rw[e.length_eq,hn]
 obtain⟨c,x,rfl⟩:∃c x,l'=c++[x]:=⟨l'.dropLast,l'.getLast o0,(List.dropLast_concat_getLast _).symm⟩;have hl3:c.length=n:=l4
 have hx:x=Iw l 0:=by
  rw[Wq U U,J rfl]at m
  grind[En]
 unfold ZD;simp only[zD,zz];refine ss (T.iG ?_);simp only[zD,zz,Dn,al7];refine Ic (cq5 U f) ?_;simp only[zD,zz];have a:(x::c).Perm l:=(List.perm_append_comm (l₁:=[x]) (l₂:=c)).trans e;refine rt ⟨_,rfl,x,c,rfl,a,λy o=>?_,?_,rfl⟩
 .obtain⟨k,hk,rfl⟩:=List.getElem_of_mem (a.mem_iff.1 (List.mem_cons_of_mem _ o));rw[hx,←En hk];exact bl7 g k hk
 .have:=aK8 h2 U
  simp_all
end
end Go.Proofs.Dev
