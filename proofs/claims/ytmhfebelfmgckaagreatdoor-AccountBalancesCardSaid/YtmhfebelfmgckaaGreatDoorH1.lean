/-
  Contracts by hand: the conditions stand in each.
-/
import Derived.Test.YtmhfebelfmgckaaGreatDoorC3
import Derived.Test.YtmhfebelfmgckaaGreatDoorPD
import Derived.Test.YtmhfebelfmgckaaGreatDoorC0
import Derived.Test.YtmhfebelfmgckaaGreatDoorC1
import Derived.Test.YtmhfebelfmgckaaGreatDoorC2
open Bool renaming true->a38,false->a39
open Option renaming some->M,none->s5
open Decidable renaming decide->s6
open Go.Tm.Ent renaming live->l!
open And renaming intro->ak
open Go.Proofs.Tryz renaming prog->al
open Eq renaming trans->I!
open List renaming getD_cons_succ->Η,getD_cons_zero->tab,getElem?_eq_getElem->n!,map_set->jad,replicate_succ->Υ,length->a00
open Nat renaming le_refl->x?
open Option renaming map_eq_some_iff->A'
set_option linter.all false
set_option maxHeartbeats 1000000
namespace Go.Tm
variable {S N:Nat}{x:Operand}{lo hi:Option Operand}{dst:Option Tmp}{i:I}{l:List RI}{K:Exit->St->Prop}{A B:Prop}
section
variable {P:Program} {G:Gh} {w:World} {a:Act} {s:St} {d:D} {m':List Ent}
def I6(P:Program):Nat->List RI->(St->Prop)->St->Prop
 |0,.op dst s5 (.slice S x lo hi s5)::l,K,s=>Jv (fa s (.trunc S x lo hi)) (KO (Vj P l K) s dst)
 |n+1,.op dst s5 i::l,K,s=>Jv (fa s i) (KO (I6 P n l K) s dst)
 |_,_,_,_=>False
theorem lV{op:Op}(h:oL P op=M (.slice S x lo hi s5)) :
 ∃t e i,op=.slice t x lo hi s5/\P.underlying t=M (.slice e)/\P.info? e=M i/\S=i.size:=by
 unfold oL at h;split at h
 all_goals (try (simp at h;done))
 all_goals (try ((repeat' split at h)<;>(try (simp at h;done))))
 all_goals (try (simp only[A',reduceCtorEq,and_false,exists_false]at h;done))
 all_goals (try (simp only[A',I.slice.injEq]at h;grind))
theorem bz5{ops:Array Oper}{o:Oper}(h:Zt P ops o=M (.op dst s5 i)):o.dst=dst/\M' ops o.guard=M s5/\ax P ops o o.op=M i:=by
 unfold Zt at h;split at h
 .cases h
 .rename_i g hg;split at h
  .cases h
  .simp only[A']at h
   grind
theorem vP{ops:Array Oper}{Q:Exit->Act->World->Prop}{K:St->Prop}:∀{n:Nat}{l:List Oper}{rl:List RI}{s:St}{G:Gh}{w:World}{a:Act},Wi P ops l=M rl->I6 P n rl K s->o? G w a s->
 (∀s' G' w' a',K s'->o? G' w' a' s'->Step G w s.m G' w' s'.m->Q .normal a' w')->wpList P ops Q l a w
 |n,[],rl,s,G,w,a,hc,h,hr,hQ=>by
  simp only[Wi]at hc;injection hc with hc;subst hc;cases n<;>exact h.elim
 |n,o::l,rl,s,G,w,a,hc,h,hr,hQ=>by
  simp only[Wi]at hc;split at hc
  case h_2=>grind
  rename_i r rs D h2;injection hc with hc;subst hc
  cases r with
  |call dst g f args=>cases n<;>exact h.elim
  |op dst g i=>
   cases g with
   |some g=>cases n<;>exact h.elim
   |none=>
    obtain⟨rfl,A,hi⟩:=bz5 D;obtain⟨b,-⟩:=Qr hr A;rw[wpList,J (b rfl o rfl)];refine .inl ?_
    cases n with
    |zero=>
     cases i with
     |slice S x lo hi' mx=>
      cases mx with
      |some _=>exact h.elim
      |none=>
       obtain⟨d,m',he,p⟩:=(Xp _ _).1 h;have A:p? G w s.m ((execOp a.eval o).run P w) d m':=by
        unfold ax at hi;split at hi
        .rename_i i' c;injection hi with hi;subst hi;unfold oG at c;split at c
         .split at c
          .split at c
           all_goals simp_all
          simp_all
         simp_all
        .obtain⟨t,e,i,ho,ht,hin,rfl⟩:=lV hi
         grind[L3]
       exact hr.wx A λG' w' u q v=>NH h2 (kz p) q λy j z k B C k3=>hQ y j z k B C (v.trans (by grind[PL]))
     |_=>exact h.elim
    |succ n=>
     obtain⟨d,m',he,p⟩:=(Xp _ _).1 h;exact hr.wx (IF hi hr he) λG' w' u q v=>vP h2 p q λy j z k B C k3=>hQ y j z k B C (v.trans (by grind[PL]))
theorem T.regC(n:Nat) {s:St}(h:I6 P n l (K .normal) s):T P N (.eU l) K s:=by
 intro code hc G w a hN hr;obtain⟨id,ops,rfl,b⟩:=mV hc;exact wp_region_list (vP b h hr λs' G' w' a' c h2 d=>⟨s',G',c,h2,d.toN hN⟩)
def bt5{K:St->Prop}:I6 P 0 (.op dst s5 (.slice S x lo hi s5)::l) K s=Jv (fa s (.trunc S x lo hi)) (KO (Vj P l K) s dst):=d?
theorem bt4{n:Nat}{K:St->Prop}:I6 P (n+1) (.op dst s5 i::l) K s=Jv (fa s i) (KO (I6 P n l K) s dst):=by cases i<;>rfl
def NA(P:Program):List RI->(St->Prop)->St->Prop
 |[],K,s=>K s
 |.op dst g i::l,K,s=>
  match j! s g with
  |none=>False
  |some s5=>Jv (fa s i) (KO (NA P l K) s dst)
  |some (M (c,b))=>if c=b then Jv (fa s i) (KO (NA P l K) s dst)else NA P l K (s.put dst (.v undef))
 |.call dst g f args::l,K,s=>
  match j! s g with
  |none=>False
  |some s5=>(match s.ec f with|.fn k first caps=>kg P k (first++args.map s.ev++caps) s.m (KO (NA P l K) s dst)|_=>False)
  |some (M (c,b))=>if c=b then(match s.ec f with|.fn k first caps=>kg P k (first++args.map s.ev++caps) s.m (KO (NA P l K) s dst)|_=>False)else NA P l K (s.put dst (.v undef))
theorem CF:∀{l:List RI}{K:St->Prop}{s:St},NA P l K s->ln P l K s
 |[],K,s,h=>h
 |.op dst g i::l,K,s,h=>by
  simp only[NA]at h;simp only[ln];split at h
  .simp_all
  .rename_i a;obtain⟨d,m',j,h2⟩:=(Xp _ _).1 h;rw[a];exact⟨d,m',j,CF h2⟩
  .rename_i c b a;rw[a];refine⟨λhc=>?_,λhc=>?_⟩
   .rw[J hc]at h;obtain⟨d,m',j,h2⟩:=(Xp _ _).1 h;exact⟨d,m',j,CF h2⟩
   .rw[p6 hc]at h;exact CF h
 |.call dst g f args::l,K,s,h=>by
  simp only[NA]at h;simp only[ln];split at h
  .simp_all
  .rename_i a;split at h
   .rename_i k first caps hf
    rw[hf];dsimp only;rw[a];exact h.mono λd m' e=>CF e
   simp_all
  .rename_i c b a;by_cases hc:c=b
   .rw[J hc]at h;split at h
    .rename_i k first caps hf
     rw[hf];dsimp only;rw[a];exact⟨λ_=>h.mono λd m' e=>CF e,λhn=>(hn hc).elim⟩
    simp_all
   .rw[p6 hc]at h;cases s.ec f<;>dsimp only<;>rw[a]<;>first|exact⟨hc,CF h⟩|exact⟨λhn=>(hc hn).elim,λ_=>CF h⟩
def gE(d:D) (b:Bool) (A B:Prop):Prop:=
 match d with
 |.v (.bool c)=>if c=b then A else B
 |.v _=>if(!b)=b then A else B
 |_=>False
@[congr] theorem cl7{d d':D} {b:Bool} {A B:Prop} (h:d=d'):gE d b A B=gE d' b A B:=by rw[h]
theorem cw9:gE (.v (.bool a38)) a38 A B=A:=by simp[gE]
theorem cx0:gE (.v (.bool a39)) a39 A B=A:=by simp[gE]
theorem cl5:gE (.v (.bool a38)) a39 A B=B:=by simp[gE]
theorem cl6:gE (.v (.bool a39)) a38 A B=B:=by simp[gE]
def gV(P:Program) (d:D) (ds:List D) (m:List Ent) (f:D->List Ent->Prop):Prop:=match d with|.fn k first caps=>kg P k (first++ds++caps) m f|_=>False
@[congr] theorem aZ2{d d':D} {ds ds':List D} {m m':List Ent} {f:D->List Ent->Prop} (h:d=d') (h2:ds=ds') (h3:m=m'):gV P d ds m f=gV P d' ds' m' f:=l5
def aQ8{k:Nat}{a c ds:List D}{m:List Ent}{f:D->List Ent->Prop}:gV P (.fn k a c) ds m f=kg P k (a++ds++c) m f:=d?
section
variable {dst:Option Tmp} {i:I} {l:List RI} {K:St->Prop} {g:Nat×Bool} {f:ς} {args:List Operand}
def aw5:NA P [] K s=K s:=d?
def aS9:NA P (.op dst s5 i::l) K s=Jv (fa s i) (KO (NA P l K) s dst):=d?
theorem M3:(match j! s (M g)with|none=>False|some s5=>A|some (M (c,b))=>if c=b then A else B)=gE (s.t.getD g.1 .dead) g.2 A B:=by
 obtain⟨t,b⟩:=g;simp only[j!,gE]
 grind
theorem aw4:NA P (.op dst (M g) i::l) K s=gE (s.t.getD g.1 .dead) g.2 (Jv (fa s i) (KO (NA P l K) s dst)) (NA P l K (s.put dst (.v undef))):=by
 rw[←M3,NA]
theorem aT0:NA P (.call dst s5 f args::l) K s=gV P (s.ec f) (args.map s.ev) s.m (KO (NA P l K) s dst):=d?
def aw6:NA P (.call dst (M g) f args::l) K s=gE (s.t.getD g.1 .dead) g.2 (gV P (s.ec f) (args.map s.ev) s.m (KO (NA P l K) s dst)) (NA P l K (s.put dst (.v undef))):=I! rfl M3
def zD:=(ak (ak (ak @aw5 @aS9) (ak @aw4 @aT0)) (ak (ak @aw6 @aQ8) (ak (ak @cw9 @cx0) (ak @cl5 @cl6))))
end
def T.GG{s:St}(h:NA P l (K .normal) s):T P N (.eU l) K s:=T.eU (CF h)
end
end Go.Tm
set_option maxRecDepth 10000
namespace Go.Proofs.Dev
open Go Go.Tm
variable {N i j v u k n:Nat}{t:List D}{m R:List Ent}{l:List Int}{y:TypeId×FuncId×Option (Bool×Nat)}{s:St}
theorem ct1{K:Exit->St->Prop}{e:Exit}{t':List D}{g:List Ent}(c:ua t t') (hN:N<=a00 m) (ht:j? m.length t'=a38) (hm:m.all (Ent.below m.length)=a38) (h:K e ⟨t',m⟩):HU N K e ⟨t,m++g⟩:=
 λG w a b hr=>by
  obtain⟨G',k1,k2⟩:=XU (At.mk t t' m g c) ⟨hN,ht,hm⟩ G w a b hr
  grind
theorem nN(hi:i<a00 l) (hj:j<a00 l) :
 CallT al 524 [.own 1 v,da i,da j] (l! 1 u [.own 1 v]::l! 1 v (l.map da)::R) λd m'=>d=.v (.bool (s6 (l[i]<l[j])))/\m'=l! 1 u [.own 1 v]::l! 1 v (l.map da)::R:=by
 refine Tn bi7.ok bi7.nm ?_;simp only[bi7,Kf.of,zs,ze,Υ];have g1:l[i]?=M l[i]:=n! hi;have g2:l[j]?=M l[j]:=n! hj;refine ss (rg ?_);simp only[zz];refine ss (dy Hz ?_);simp only[zz,zy,g1,g2,hi,hj];exact rt ⟨_,rfl,rfl,rfl⟩
theorem bt7{x:Int}(hl:(a00 l+1)*8<=2 ^ 47) (a:R.all (Ent.below (a00 R+2))=a38) :
 CallT al 526 [.ref 0 u 0 0,.ifc 3 (da x)] (l! 1 u [.own 1 v]::l! 1 v (l.map da)::R) λd m'=>d=.tup []/\m'=l! 1 u [.own 1 (v+1)]::l! 1 (v+1) ((l++[x]).map da)::R:=by
 refine Tn bi5.ok bi5.nm ?_;simp only[bi5,Kf.of,zs,ze,Υ];refine T.clo ?_;refine ss (rg ?_);simp only[zz];refine ss (rg ?_);simp only[zz];refine cd rfl ?_;simp only[zz];refine rg ?_;simp only[zz,List.getElem?_concat_length,hl];refine ct1 (t':=ds 20 []) (m:=l! 1 u [.own 1 (v+1)]::l! 1 (v+1) ((l.map da)++[da x])::R) (by repeat (first|exact ua.Hb _|refine ua.cons (q'.Ta _) ?_)) o0 rfl ?_ ⟨_,rfl,rfl,?_⟩
 .simp only[List.all_cons,Bool.and_eq_true,List.length_cons];refine⟨?_,Ub _ _ ?_,a⟩
  .simp_all[Ent.below,j?,Tm.below]
  .exact ao3 (Fr.l _) rfl
 simp
theorem pN(hi:i<a00 l) (hj:j<a00 l) :
 CallT al 527 [.own 1 v,da i,da j] (l! 1 u [.own 1 v]::l! 1 v (l.map da)::R) λd m'=>d=.tup []/\m'=l! 1 u [.own 1 v]::l! 1 v (((l.set i l[j]).set j l[i]).map da)::R:=by
 refine Tn bi4.ok bi4.nm ?_;simp only[bi4,Kf.of,zs,ze,Υ];have g1:l[i]?=M l[i]:=n! hi;have g2:l[j]?=M l[j]:=n! hj;simp only[zz];refine ay Hz [[],[],[],[],[],[],[],[],[],[],[],[],[],[]] Θ ?_;have g3:((l.map da).set i (D.v (Value.int IntKind.i64 l[j])))[j]?=M (.v (.int .i64 ((l.set i l[j])[j]' l5))):=by
  rw[show(D.v (Value.int IntKind.i64 l[j]))=da l[j]from rfl,←jad,List.getElem?_map,n! l5];rfl
 have g4:j<((l.map da).set i (D.v (Value.int IntKind.i64 l[j]))).length:=l5
 simp only[zz,zy,g1,g2,g3,g4,hi,hj];refine⟨_,rfl,rfl,?_⟩;rw[jad,jad];rfl
theorem aw7:
 CallT al 322 [.own 1 v] (l! 1 u [.own 1 v]::l! 1 v (l.map da)::R) λd m'=>d=da l.length/\m'=l! 1 u [.own 1 v]::l! 1 v (l.map da)::R:=by
 refine Tn bj9.ok bj9.nm ?_;simp only[bj9,Kf.of,zs,ze,Υ];refine ss (rg ?_);simp only[zz];refine ss (rg ?_);simp only[zz];exact rt ⟨_,rfl,rfl,rfl⟩
theorem cs2{x:Int}(hl:l.length<1000000000) (hR:R.all (Ent.below (a00 R+2))=a38) :
 CallT al 525 [.ref 0 u 0 0] (l! 1 u [.own 1 v]::l! 1 v ((l++[x]).map da)::R) λd m'=>d=.ifc 3 (da x)/\m'=l! 1 u [.own 1 (v+1)]::l! 1 (v+1) (l.map da)::R:=by
 refine Tn bi6.ok bi6.nm ?_;simp only[bi6,Kf.of,zs,ze,Υ];refine ss (rg ?_);simp only[zz];refine ss (rg ?_);simp only[zz];have a:aa .i64 (((a00 l+1:Nat):Int)-1)=(a00 l:Int):=by grind[KA]
 have h2:(l++[x])[a00 l]?=M x:=o0
 have b:l.length<a00 l+1:=U
 refine ss (rg ?_);simp only[zz,a,h2,b];refine ss (T.regC 5 ?_);simp only[bt4,bt5,zz,a,h2,b];refine⟨U,?_⟩;refine ss (rg ?_);simp only[zz];refine rt ⟨_,rfl,rfl,?_⟩;simp
section
variable {l:List Int} {v u:Nat} {R:List Ent}
def rE(l:List Int) (v u:Nat) (R:List Ent):List Ent:=l! 1 u [.own 1 v]::l! 1 v (l.map da)::R
theorem UB:IL (l! 1 u [.own 1 v]::R) [(334,k,M (a39,1)),y] (.ifc 334 (.ref 0 u 0 0))=.fn k [.own 1 v] []:=by
 simp_all[IL,fa,St.ev,D.ok,Tm.part,YJ]
theorem al8{x:TypeId×FuncId×Option (Bool×Nat)}(hx:(334==x.1)=a39):IL (l! 1 u [.own 1 v]::R) [x,(334,k,M (a39,1)),y] (.ifc 334 (.ref 0 u 0 0))=.fn k [.own 1 v] []:=by
 simp[IL,List.lookup,fa,St.ev,D.ok,YJ,hx,Tm.part]
theorem al7:IL m [(334,k,s5)] (.ifc 334 (.ref 0 u 0 0))=.fn k [.ref 0 u 0 0] []:=rfl
def Kn{r:Operand}{tb:List (TypeId×FuncId×Option (Bool×Nat))}:s.ec (.meth r tb)=IL s.m tb (s.ev r):=rfl
def U2:s.ec (.func k)=.fn k [] []:=rfl
theorem fG{l:List Int}(hR:R.all (Ent.below (a00 R+2))=a38) (hN:N<=a00 R+2) (ht:j? (a00 R+2) t=a38):Ω N ⟨t,rE l v u R⟩:=by
 refine⟨hN,ht,?_⟩
 simp_all[rE,Ent.below,j?,Tm.below,Ub,Fr.l]
theorem CJ{l:List Int}(hi:i<a00 l) (hj:j<a00 l):(l.set i l[j]).set j l[i]=Ρ l i j:=by grind[Ρ,Ln]
theorem ct2{l:List Int}{v:Nat}{u:Nat}{R:List Ent}(p:R.all (Ent.below (a00 R+2))=a38) (hj:j<a00 l) (hl:l.length<1000000000) (hu:HpU l j) :
 CallT al 359 [.ifc 334 (.ref 0 u 0 0),da j] (rE l v u R) λd m'=>d=.tup []/\∃l',l'.Perm l/\Hp l' l'.length/\m'=rE l' v u R:=by
 refine Tn bj2.ok bj2.nm ?_;simp only[bj2,Kf.of,zs,ze,Υ];refine T.clo ?_;refine T.aV (X:=List Int×Nat) (λy=>⟨.ifc 334 (.ref 0 u 0 0)::da y.2::ds 21 [],rE y.1 v u R⟩) (λy=>y.2<a00 y.1/\y.1.Perm l/\HpU y.1 y.2) (λy=>y.1.Perm l/\Hp y.1 y.1.length) (λy=>y.2) (l,j) ⟨hj,.refl _,hu⟩ (At.same _ _ _ (ua.Hb _)) ?_ ?_ (λ_=>bc0) ?_
 .rintro⟨a,i⟩ -;exact fG p (x? _) (by simp_all[j?,Tm.below,Jn,Ap,Rc,Fr.h])
 .rintro⟨a,i⟩ ⟨c,h2,f⟩;dsimp only at c h2 f;have h5:=h2.length_eq;unfold rE;have hw:aa .i64 ((aa .i64 ((i:Int)-1)).tdiv 2)=(((i-1) / 2:Nat):Int):=by
   rw[KA (n:=(i:Int)-1) ⟨U,U⟩]
   cases i with
   |zero=>rfl
   |succ n=>
    rw[show((n+1:Nat):Int)-1=(n:Int) by omega,show Int.tdiv (n:Int) 2=((n / 2:Nat):Int)from rfl,KA ⟨U,U⟩];simp
  refine bk (ss (rg ?_));simp only[zz,hw];refine ss (ss (T.GG ?_));by_cases o:i=0
  .subst o;have e:((((0-1) / 2:Nat):Int)==0)=a38:=rfl;simp only[zD,zz,tab,Η,e];refine cd rfl ?_;simp only[zz];refine xt ?_;simp only[zz,Hv];exact⟨(a,0),⟨h2,ab4 f (.inl rfl)⟩,At.same _ _ _ B?⟩
  .have g:¬(((i-1) / 2:Nat):Int)=(i:Int):=U
   have e:((((i-1) / 2:Nat):Int)==(i:Int))=a39:=l5
   have m:(i-1) / 2<a00 a:=U
   simp only[zD,zz,tab,Η,e,g,Kn,UB];refine Lc (nN c m) ?_;by_cases k:Nw a i<Nw a ((i-1) / 2)
   .have b:s6 (a[i]<a[(i-1) / 2])=a38:=by grind[Ln]
    simp only[zD,zz,tab,Η,e,g,b,aw];refine cd rfl ?_;simp only[zz];refine sk ?_;simp only[zz];refine ss (T.GG ?_);simp only[zD,zz,Kn,UB];refine Lc (pN m c) ?_;simp only[zD,zz];refine rg ?_;simp only[zz,Ws];refine⟨(Ρ a ((i-1) / 2) i,(i-1) / 2),⟨by grind[BJ],(LF m c).trans h2,bv6 f U c k⟩,U,?_⟩;rw[CJ];exact At.same _ _ _ B?
   .have b:s6 (a[i]<a[(i-1) / 2])=a39:=by grind[Ln]
    simp only[zD,zz,tab,Η,e,g,b,aw];refine cd rfl ?_;simp only[zz];refine xt ?_;simp only[zz,Hv];exact⟨(a,i),⟨h2,ab4 f (.inr l5)⟩,At.same _ _ _ B?⟩
 .rintro⟨a,i⟩ ⟨c,h2⟩;exact HU.of ⟨_,rfl,rfl,a,c,h2,rfl⟩
theorem bp3{l:List Int}{v:Nat}{u:Nat}{R:List Ent}(B:R.all (Ent.below (a00 R+2))=a38) (hn:n<a00 l) (hl:l.length<1000000000) (hd:HpD l n 0) :
 CallT al 360 [.ifc 334 (.ref 0 u 0 0),.v (.int .i64 0),da n] (rE l v u R) λd m'=>(∃b,d=.v (.bool b))/\∃l',l'.Perm l/\Hp l' n/\Nw l' n=Nw l n/\m'=rE l' v u R:=by
 refine Tn bj1.ok bj1.nm ?_;simp only[bj1,Kf.of,zs,ze,Υ];refine T.clo ?_;refine ss (rg ?_);simp only[zz];refine ss (rg ?_);simp only[zz];refine ss ?_;refine T.aV (X:=List Int×Nat) (λy=>⟨.ifc 334 (.ref 0 u 0 0)::.v (.int .i64 0)::da n::.dead::.dead::.dead::.v (.bool a39)::da y.2::ds 40 [],rE y.1 v u R⟩) (λy=>y.2<=n/\y.1.Perm l/\HpD y.1 n y.2/\Nw y.1 n=Nw l n) (λy=>y.1.Perm l/\Hp y.1 n/\Nw y.1 n=Nw l n) (λy=>n-y.2) (l,0) ⟨Nat.zero_le _,.refl _,hd,rfl⟩ (At.same _ _ _ B?) ?_ ?_ (λ_=>FA) ?_
 .rintro⟨a,i⟩ -;exact fG B (x? _) (by simp_all[j?,Tm.below,Jn,Ap,Rc,Fr.h])
 .rintro⟨a,i⟩ ⟨s,h2,g,p⟩;dsimp only at s h2 g p;have h5:=h2.length_eq;unfold rE;have C:aa .i64 (2*(i:Int))=((2*i:Nat):Int):=by grind[KA]
  have D:aa .i64 (((2*i:Nat):Int)+1)=((2*i+1:Nat):Int):=by grind[KA]
  have E:aa .i64 (((2*i+1:Nat):Int)+1)=((2*i+2:Nat):Int):=by grind[KA]
  refine bk (ss (rg ?_));simp only[zz,C,D];refine ss (ss (T.GG ?_));by_cases z:n<=2*i+1
  .have t:s6 (((n:Nat):Int)<=((2*i+1:Nat):Int))=a38:=s7 U;simp only[zD,zz,tab,Η,t];refine cd rfl ?_;simp only[zz];refine xt ?_;simp only[zz,Hv];exact⟨(a,i),⟨h2,N7 g z,p⟩,At.same _ _ _ B?⟩
  .have t:s6 (((n:Nat):Int)<=((2*i+1:Nat):Int))=a39:=w2 U;have w:s6 (((2*i+1:Nat):Int)<0)=a39:=w2 U;have f:i<a00 a:=U
   simp only[zD,zz,tab,Η,t,w];refine cd rfl ?_;simp only[zz];refine sk ?_;simp only[zz];refine ss (rg ?_);simp only[zz];refine ss (ss (rg ?_));simp only[zz,E];refine ss (T.GG ?_);by_cases x:2*i+2<n
   .have m:s6 (((2*i+2:Nat):Int)<(n:Int))=a38:=s7 U;have q:2*i+1<a00 a:=U
    have r:2*i+2<a00 a:=U
    simp only[zD,zz,tab,Η,m,Kn,UB];refine Lc (nN (i:=2*i+2) (j:=2*i+1) r q) ?_;by_cases A:Nw a (2*i+2)<Nw a (2*i+1)
    .have o:s6 (a[2*i+2]<a[2*i+1])=a38:=by grind[Ln]
     have hc:=cC4 x A;have e:=r;simp only[zD,zz,tab,Η,o];refine cd rfl ?_;simp only[zz];refine rg ?_;simp only[zz];refine ss (ss (T.GG ?_));simp only[zD,zz,Kn,UB];refine Lc (nN (i:=(2*i+2)) (j:=i) e f) ?_;by_cases k:Nw a (2*i+2)<Nw a i
     .have c:s6 (a[(2*i+2)]<a[i])=a38:=by grind[Ln]
      simp only[zD,zz,c,aw];refine cd rfl ?_;simp only[zz];refine sk ?_;simp only[zz];refine ss (T.GG ?_);simp only[zD,zz,Kn,UB];refine Lc (pN (i:=i) (j:=(2*i+2)) f e) ?_;simp only[zD,zz];refine rg ?_;simp only[zz,Ws];refine⟨(Ρ a i (2*i+2),(2*i+2)),⟨U,(LF f e).trans h2,fT g U hc k,?_⟩,U,?_⟩
      .dsimp only;rw[ir f e,p6,p6];omega
      rw[CJ];exact At.same _ _ _ B?
     .have c:s6 (a[(2*i+2)]<a[i])=a39:=by grind[Ln]
      simp only[zD,zz,c,aw];refine cd rfl ?_;simp only[zz];refine xt ?_;simp only[zz,Hv];exact⟨(a,i),⟨h2,SN g hc l5,p⟩,At.same _ _ _ B?⟩
    .have o:s6 (a[2*i+2]<a[2*i+1])=a39:=by grind[Ln]
     have hc:CmH a n i (2*i+1):=cq5 U λ_=>U
     have e:=q;simp only[zD,zz,tab,Η,o];refine cd rfl ?_;simp only[zz];refine sk ?_;simp only[zz];refine ss (ss (T.GG ?_));simp only[zD,zz,Kn,UB];refine Lc (nN (i:=(2*i+1)) (j:=i) e f) ?_;by_cases k:Nw a (2*i+1)<Nw a i
     .have c:s6 (a[(2*i+1)]<a[i])=a38:=by grind[Ln]
      simp only[zD,zz,c,aw];refine cd rfl ?_;simp only[zz];refine sk ?_;simp only[zz];refine ss (T.GG ?_);simp only[zD,zz,Kn,UB];refine Lc (pN (i:=i) (j:=(2*i+1)) f e) ?_;simp only[zD,zz];refine rg ?_;simp only[zz,Ws];refine⟨(Ρ a i (2*i+1),(2*i+1)),⟨U,(LF f e).trans h2,fT g U hc k,?_⟩,U,?_⟩
      .dsimp only;rw[ir f e,p6,p6];omega
      rw[CJ];exact At.same _ _ _ B?
     .have c:s6 (a[(2*i+1)]<a[i])=a39:=by grind[Ln]
      simp only[zD,zz,c,aw];refine cd rfl ?_;simp only[zz];refine xt ?_;simp only[zz,Hv];exact⟨(a,i),⟨h2,SN g hc l5,p⟩,At.same _ _ _ B?⟩
   .have m:s6 (((2*i+2:Nat):Int)<(n:Int))=a39:=w2 U;have e:2*i+1<a00 a:=U
    have hc:CmH a n i (2*i+1):=cq5 U λh=>(x h).elim;simp only[zD,zz,tab,Η,m];refine cd rfl ?_;simp only[zz];refine sk ?_;simp only[zz];refine ss (ss (T.GG ?_));simp only[zD,zz,Kn,UB];refine Lc (nN (i:=(2*i+1)) (j:=i) e f) ?_;by_cases k:Nw a (2*i+1)<Nw a i
    .have c:s6 (a[(2*i+1)]<a[i])=a38:=by grind[Ln]
     simp only[zD,zz,c,aw];refine cd rfl ?_;simp only[zz];refine sk ?_;simp only[zz];refine ss (T.GG ?_);simp only[zD,zz,Kn,UB];refine Lc (pN (i:=i) (j:=(2*i+1)) f e) ?_;simp only[zD,zz];refine rg ?_;simp only[zz,Ws];refine⟨(Ρ a i (2*i+1),(2*i+1)),⟨U,(LF f e).trans h2,fT g U hc k,?_⟩,U,?_⟩
     .dsimp only;rw[ir f e,p6,p6];omega
     rw[CJ];exact At.same _ _ _ B?
    .have c:s6 (a[(2*i+1)]<a[i])=a39:=by grind[Ln]
     simp only[zD,zz,c,aw];refine cd rfl ?_;simp only[zz];refine xt ?_;simp only[zz,Hv];exact⟨(a,i),⟨h2,SN g hc l5,p⟩,At.same _ _ _ B?⟩
 .rintro⟨a,i⟩ ⟨s,h2,g⟩;unfold rE;dsimp only at s h2 g;simp only[zz];refine ss (rg ?_);simp only[zz];exact rt (HU.of ⟨_,rfl,⟨_,rfl⟩,a,s,h2,g,rfl⟩)
theorem P3{l:List Int}{x:Int}{v:Nat}{u:Nat}{R:List Ent}(b:R.all (Ent.below (a00 R+2))=a38) (hl:l.length<100000000) (e:Hp l l.length) :
 CallT al 321 [.ifc 334 (.ref 0 u 0 0),.ifc 3 (da x)] (rE l v u R) λd m'=>d=.tup []/\∃l',l'.Perm (l++[x])/\Hp l' l'.length/\m'=rE l' (v+1) u R:=by
 refine Tn bk0.ok bk0.nm ?_;simp only[bk0,Kf.of,zs,ze,Υ];unfold rE;refine ss (T.GG ?_);simp only[zD,zz,Kn,al7];refine Lc (bt7 U b) ?_;simp only[zD,zz];refine T.GG ?_;simp only[zD,zz,Kn];rw[al8 rfl];simp only[zD,zz,Kn];refine Lc aw7 ?_;have f:aa .i64 (((a00 l+1:Nat):Int)-1)=((a00 l:Nat):Int):=by grind[KA]
 have a:(l++[x]).length=a00 l+1:=o0
 simp only[zD,zz,a,f,U2];refine qC (ct2 (j:=a00 l) b U U (bf5 e)) ?_;rintro d m' ⟨rfl,l',c,h2,rfl⟩;simp only[zD,zz];exact⟨_,rfl,rfl,l',c,h2,rfl⟩
theorem bm3{l:List Int}{v:Nat}{u:Nat}{R:List Ent}(f:R.all (Ent.below (a00 R+2))=a38) (hl:l.length<100000000) (hn:l.length=n+1) (g:Hp l l.length) :
 CallT al 323 [.ifc 334 (.ref 0 u 0 0)] (rE l v u R) λd m'=>∃x l',d=.ifc 3 (da x)/\(x::l').Perm l/\(∀y∈l',x<=y)/\Hp l' l'.length/\m'=rE l' (v+1) u R:=by
 refine Tn bj8.ok bj8.nm ?_;simp only[bj8,Kf.of,zs,ze,Υ];unfold rE;refine ss (rg ?_);simp only[zz];refine ss (T.GG ?_);simp only[zD,zz,Kn];rw[al8 rfl];simp only[zD,zz,Kn];refine Lc aw7 ?_;have p:aa .i64 (((n+1:Nat):Int)-1)=((n:Nat):Int):=by grind[KA]
 simp only[zD,zz,hn,p];refine ss (T.GG ?_);simp only[zD,zz,Kn,UB];refine Lc (pN (i:=0) (j:=n) U U) ?_;simp only[zD,zz];rw[CJ];refine ss (T.GG ?_);simp only[zD,zz,U2];refine qC (bp3 (n:=n) f (by grind[BJ]) (by grind[BJ]) (bz0 g hn)) ?_;rintro d m' ⟨⟨b,rfl⟩,l',h,h2,m,rfl⟩;have e:l'.Perm l:=h.trans (LF U U);have hln:l'.length=n+1:=by rw[e.length_eq,hn]
 obtain⟨c,x,rfl⟩:∃c x,l'=c++[x]:=⟨l'.dropLast,l'.getLast o4,(List.dropLast_concat_getLast _).symm⟩;have hl3:c.length=n:=l5
 have hx:x=Nw l 0:=by
  rw[ir U U,J rfl]at m
  grind[Ln]
 unfold rE;simp only[zD,zz];refine ss (T.GG ?_);simp only[zD,zz,Kn,al7];refine Lc (cs2 U f) ?_;simp only[zD,zz];have a:(x::c).Perm l:=(List.perm_append_comm (l₁:=[x]) (l₂:=c)).trans e;refine rt ⟨_,rfl,x,c,rfl,a,λy o=>?_,?_,rfl⟩
 .obtain⟨k,hk,rfl⟩:=List.getElem_of_mem (a.mem_iff.1 (List.mem_cons_of_mem _ o));rw[hx,←Ln hk];exact bm4 g k hk
 .have:=aL4 h2 U
  simp_all
end
end Go.Proofs.Dev
