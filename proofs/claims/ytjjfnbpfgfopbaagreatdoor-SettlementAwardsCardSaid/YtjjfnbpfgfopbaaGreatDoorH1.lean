/-
  Contracts by hand: the conditions stand in each.
-/
import Derived.Test.YtjjfnbpfgfopbaaGreatDoorED
import Derived.Test.YtjjfnbpfgfopbaaGreatDoorC3
import Derived.Test.YtjjfnbpfgfopbaaGreatDoorPD
import Derived.Test.YtjjfnbpfgfopbaaGreatDoorPA
import Derived.Test.YtjjfnbpfgfopbaaGreatDoorC0
import Derived.Test.YtjjfnbpfgfopbaaGreatDoorC1
import Derived.Test.YtjjfnbpfgfopbaaGreatDoorC2
open Eq renaming trans->maa
open List renaming getD_cons_succ->nab,getD_cons_zero->xab,getElem?_eq_getElem->naa,map_set->dad,replicate_succ->pab
open Nat renaming le_refl->Haa
open Option renaming map_eq_some_iff->paa
set_option linter.all false
set_option maxHeartbeats 1000000
namespace Go.Tm
variable {S N:Nat}{x:Operand}{lo hi:Option Operand}{dst:Option Tmp}{i:I}{l:List RI}{K:Exit->St->Prop}{A B:Prop}
section
variable {P:Program} {G:Gh} {w:World} {a:Act} {s:St} {d:D} {m':List Ent}
def TT(P:Program):Nat->List RI->(St->Prop)->St->Prop
 |0,.op dst none (.slice S x lo hi none)::l,K,s=>Pp (da s (.trunc S x lo hi)) (KO (zh P l K) s dst)
 |n+1,.op dst none i::l,K,s=>Pp (da s i) (KO (TT P n l K) s dst)
 |_,_,_,_=>False
theorem YL{op:Op}(h:oD P op=some (.slice S x lo hi none)) :
 ∃t e i,op=.slice t x lo hi none/\P.underlying t=some (.slice e)/\P.info? e=some i/\S=i.size:=by
 unfold oD at h;split at h
 all_goals (try (simp at h;done))
 all_goals (try ((repeat' split at h)<;>(try (simp at h;done))))
 all_goals (try (simp only[paa,reduceCtorEq,and_false,exists_false]at h;done))
 all_goals (try (simp only[paa,I.slice.injEq]at h;grind))
theorem op_in{ops:Array Oper}{o:Oper}(h:wo P ops o=some (.op dst none i)):o.dst=dst/\guardOf ops o.guard=some none/\Oq P ops o o.op=some i:=by
 unfold wo at h;split at h
 .cases h
 .rename_i g hg;split at h
  .cases h
  .simp only[paa]at h
   grind
theorem QG{ops:Array Oper}{Q:Exit->Act->World->Prop}{K:St->Prop}:∀{n:Nat}{l:List Oper}{rl:List RI}{s:St}{G:Gh}{w:World}{a:Act},Hg P ops l=some rl->TT P n rl K s->Rel G w a s->
 (∀s' G' w' a',K s'->Rel G' w' a' s'->Step G w s.m G' w' s'.m->Q .normal a' w')->wpList P ops Q l a w
 |n,[],rl,s,G,w,a,hc,h,hr,hQ=>by
  simp only[Hg]at hc;injection hc with hc;subst hc;cases n<;>exact h.elim
 |n,o::l,rl,s,G,w,a,hc,h,hr,hQ=>by
  simp only[Hg]at hc;split at hc
  case h_2=>grind
  rename_i r rs D h2;injection hc with hc;subst hc
  cases r with
  |call dst g f args=>cases n<;>exact h.elim
  |op dst g i=>
   cases g with
   |some g=>cases n<;>exact h.elim
   |none=>
    obtain⟨rfl,A,hi⟩:=op_in D;obtain⟨b,-⟩:=cn hr A;rw[wpList,if_pos (b rfl o rfl)];refine .inl ?_
    cases n with
    |zero=>
     cases i with
     |slice S x lo hi' mx=>
      cases mx with
      |some _=>exact h.elim
      |none=>
       obtain⟨d,m',he,p⟩:=(Dl _ _).1 h;have A:Good G w s.m ((execOp a.eval o).run P w) d m':=by
        unfold Oq at hi;split at hi
        .rename_i i' c;injection hi with hi;subst hi;unfold az at c;split at c
         .split at c
          .split at c
           all_goals simp_all
          simp_all
         simp_all
        .obtain⟨t,e,i,ho,ht,hin,rfl⟩:=YL hi
         grind[iS]
       exact hr.cr A λG' w' u q v=>jA h2 (Xs p) q λy j z k B C k3=>hQ y j z k B C (v.trans (by grind[ND]))
     |_=>exact h.elim
    |succ n=>
     obtain⟨d,m',he,p⟩:=(Dl _ _).1 h;exact hr.cr (Dy hi hr he) λG' w' u q v=>QG h2 p q λy j z k B C k3=>hQ y j z k B C (v.trans (by grind[ND]))
theorem T.regC(n:Nat) {s:St}(h:TT P n l (K .normal) s):T P N (.QK l) K s:=by
 intro code hc G w a hN hr;obtain⟨id,ops,rfl,b⟩:=ZL hc;exact wp_region_list (QG b h hr λs' G' w' a' c h2 d=>⟨s',G',c,h2,d.T5 hN⟩)
theorem RegC_0{K:St->Prop}:TT P 0 (.op dst none (.slice S x lo hi none)::l) K s=Pp (da s (.trunc S x lo hi)) (KO (zh P l K) s dst):=maa rfl rfl
theorem RegC_s{n:Nat}{K:St->Prop}:TT P (n+1) (.op dst none i::l) K s=Pp (da s i) (KO (TT P n l K) s dst):=by cases i<;>rfl
def Bu(P:Program):List RI->(St->Prop)->St->Prop
 |[],K,s=>K s
 |.op dst g i::l,K,s=>
  match gate s g with
  |none=>False
  |some none=>Pp (da s i) (KO (Bu P l K) s dst)
  |some (some (c,b))=>if c=b then Pp (da s i) (KO (Bu P l K) s dst)else Bu P l K (s.put dst (.v undef))
 |.call dst g f args::l,K,s=>
  match gate s g with
  |none=>False
  |some none=>(match s.ec f with|.fn k first caps=>Ye P k (first++args.map s.ev++caps) s.m (KO (Bu P l K) s dst)|_=>False)
  |some (some (c,b))=>if c=b then(match s.ec f with|.fn k first caps=>Ye P k (first++args.map s.ev++caps) s.m (KO (Bu P l K) s dst)|_=>False)else Bu P l K (s.put dst (.v undef))
theorem yy:∀{l:List RI}{K:St->Prop}{s:St},Bu P l K s->wj P l K s
 |[],K,s,h=>h
 |.op dst g i::l,K,s,h=>by
  simp only[Bu]at h;simp only[wj];split at h
  .simp_all
  .rename_i a;obtain⟨d,m',e,h2⟩:=(Dl _ _).1 h;rw[a];exact⟨d,m',e,yy h2⟩
  .rename_i c b a;rw[a];refine⟨λhc=>?_,λhc=>?_⟩
   .rw[if_pos hc]at h;obtain⟨d,m',e,h2⟩:=(Dl _ _).1 h;exact⟨d,m',e,yy h2⟩
   .rw[if_neg hc]at h;exact yy h
 |.call dst g f args::l,K,s,h=>by
  simp only[Bu]at h;simp only[wj];split at h
  .simp_all
  .rename_i a;split at h
   .rename_i k first caps hf
    rw[hf];dsimp only;rw[a];exact h.mono λd m' h'=>yy h'
   simp_all
  .rename_i c b a;by_cases hc:c=b
   .rw[if_pos hc]at h;split at h
    .rename_i k first caps hf
     rw[hf];dsimp only;rw[a];exact⟨λ_=>h.mono λd m' h'=>yy h',λhn=>(hn hc).elim⟩
    simp_all
   .rw[if_neg hc]at h;cases s.ec f<;>dsimp only<;>rw[a]<;>first|exact⟨hc,yy h⟩|exact⟨λhn=>(hc hn).elim,λ_=>yy h⟩
def gE(d:D) (b:Bool) (A B:Prop):Prop:=
 match d with
 |.v (.bool c)=>if c=b then A else B
 |.v _=>if(!b)=b then A else B
 |_=>False
@[congr] theorem gE_congr{d d':D} {b:Bool} {A B:Prop} (h:d=d'):gE d b A B=gE d' b A B:=by rw[h]
theorem gE_t:gE (.v (.bool true)) true A B=A:=by simp[gE]
theorem gE_f:gE (.v (.bool false)) false A B=A:=by simp[gE]
theorem gE_tf:gE (.v (.bool true)) false A B=B:=by simp[gE]
theorem gE_ft:gE (.v (.bool false)) true A B=B:=by simp[gE]
def UL(P:Program) (d:D) (ds:List D) (m:List Ent) (f:D->List Ent->Prop):Prop:=match d with|.fn k first caps=>Ye P k (first++ds++caps) m f|_=>False
@[congr] theorem callM_congr{d d':D} {ds ds':List D} {m m':List Ent} {f:D->List Ent->Prop} (h:d=d') (h2:ds=ds') (h3:m=m'):UL P d ds m f=UL P d' ds' m' f:=by simp_all
theorem r8{k:Nat}{a c ds:List D}{m:List Ent}{f:D->List Ent->Prop}:UL P (.fn k a c) ds m f=Ye P k (a++ds++c) m f:=maa rfl rfl
section
variable {dst:Option Tmp} {i:I} {l:List RI} {K:St->Prop} {g:Nat×Bool} {f:Cal} {args:List Operand}
theorem IX:Bu P [] K s=K s:=maa rfl rfl
theorem M7:Bu P (.op dst none i::l) K s=Pp (da s i) (KO (Bu P l K) s dst):=maa rfl rfl
theorem jS:(match gate s (some g)with|none=>False|some none=>A|some (some (c,b))=>if c=b then A else B)=gE (s.t.getD g.1 .dead) g.2 A B:=by
 obtain⟨t,b⟩:=g;simp only[gate,gE]
 grind
theorem JX:Bu P (.op dst (some g) i::l) K s=gE (s.t.getD g.1 .dead) g.2 (Pp (da s i) (KO (Bu P l K) s dst)) (Bu P l K (s.put dst (.v undef))):=by
 rw[←jS,Bu]
theorem L7:Bu P (.call dst none f args::l) K s=UL P (s.ec f) (args.map s.ev) s.m (KO (Bu P l K) s dst):=maa rfl rfl
theorem HX:Bu P (.call dst (some g) f args::l) K s=gE (s.t.getD g.1 .dead) g.2 (UL P (s.ec f) (args.map s.ev) s.m (KO (Bu P l K) s dst)) (Bu P l K (s.put dst (.v undef))):=maa rfl jS
def zD:=(And.intro (And.intro (And.intro @IX @M7) (And.intro @JX @L7)) (And.intro (And.intro @HX @r8) (And.intro (And.intro @gE_t @gE_f) (And.intro @gE_tf @gE_ft))))
end
theorem T.uz{s:St}(h:Bu P l (K .normal) s):T P N (.QK l) K s:=T.QK (yy h)
end
end Go.Tm
set_option maxRecDepth 10000
namespace Go.Proofs.Dev
open Go Go.Tm
variable {N i j v u k n:Nat}{t:List D}{m R:List Ent}{l:List Int}{y:TypeId×FuncId×Option (Bool×Nat)}{s:St}
theorem wend{K:Exit->St->Prop}{e:Exit}{t':List D}{g:List Ent}(c:la t t') (hN:N<=m.length) (ht:belows m.length t'=true) (hm:m.all (Ent.below m.length)=true) (h:K e ⟨t',m⟩):yL N K e ⟨t,m++g⟩:=
 λG w a b hr=>by
  obtain⟨G',k1,k2⟩:=NL (At.mk t t' m g c) ⟨hN,ht,hm⟩ G w a b hr
  grind
theorem ZE(hi:i<l.length) (hj:j<l.length) :
 CallT Tryz.prog 316 [.own 1 v,ca i,ca j] (.live 1 u [.own 1 v]::.live 1 v (l.map ca)::R) λd m'=>d=.v (.bool (decide (l[i]<l[j])))/\m'=.live 1 u [.own 1 v]::.live 1 v (l.map ca)::R:=by
 refine Uj k316.ok k316.nm ?_;simp only[k316,Kf.of,zs,ze,pab];have g1:l[i]?=some l[i]:=naa hi;have g2:l[j]?=some l[j]:=naa hj;refine ss (rg ?_);simp only[zz];refine ss (dy Hw ?_);simp only[zz,zy,g1,g2,hi,hj];exact rt ⟨_,rfl,rfl,rfl⟩
theorem Push_T{x:Int}(hl:(l.length+1)*8<=2 ^ 47) (a:R.all (Ent.below (R.length+2))=true) :
 CallT Tryz.prog 318 [.ref 0 u 0 0,.ifc 3 (ca x)] (.live 1 u [.own 1 v]::.live 1 v (l.map ca)::R) λd m'=>d=.tup []/\m'=.live 1 u [.own 1 (v+1)]::.live 1 (v+1) ((l++[x]).map ca)::R:=by
 refine Uj k318.ok k318.nm ?_;simp only[k318,Kf.of,zs,ze,pab];refine T.zY ?_;refine ss (rg ?_);simp only[zz];refine ss (rg ?_);simp only[zz];refine cd rfl ?_;simp only[zz];refine rg ?_;simp only[zz,List.getElem?_concat_length,hl];refine wend (t':=ds 20 []) (m:=.live 1 u [.own 1 (v+1)]::.live 1 (v+1) ((l.map ca)++[ca x])::R) (by repeat (first|exact la.pb _|refine la.cons (Sub.Ia _) ?_)) (by simp) rfl ?_ ⟨_,rfl,rfl,?_⟩
 .simp only[List.all_cons,Bool.and_eq_true,List.length_cons];refine⟨?_,Cb _ _ ?_,a⟩
  .simp_all[Ent.below,belows,Tm.below]
  .exact JZ (Fr.l _) rfl
 simp
theorem bF(hi:i<l.length) (hj:j<l.length) :
 CallT Tryz.prog 319 [.own 1 v,ca i,ca j] (.live 1 u [.own 1 v]::.live 1 v (l.map ca)::R) λd m'=>d=.tup []/\m'=.live 1 u [.own 1 v]::.live 1 v (((l.set i l[j]).set j l[i]).map ca)::R:=by
 refine Uj k319.ok k319.nm ?_;simp only[k319,Kf.of,zs,ze,pab];have g1:l[i]?=some l[i]:=naa hi;have g2:l[j]?=some l[j]:=naa hj;simp only[zz];refine ay Hw [[],[],[],[],[],[],[],[],[],[],[],[],[],[]] (by kernel_rfl) ?_;have g3:((l.map ca).set i (D.v (Value.int IntKind.i64 l[j])))[j]?=some (.v (.int .i64 ((l.set i l[j])[j]'(by simp_all)))):=by
  rw[show(D.v (Value.int IntKind.i64 l[j]))=ca l[j]from rfl,←dad,List.getElem?_map,naa (by simp_all)];rfl
 have g4:j<((l.map ca).set i (D.v (Value.int IntKind.i64 l[j]))).length:=by simp_all
 simp only[zz,zy,g1,g2,g3,g4,hi,hj];refine⟨_,rfl,rfl,?_⟩;rw[dad,dad];rfl
theorem EX:
 CallT Tryz.prog 222 [.own 1 v] (.live 1 u [.own 1 v]::.live 1 v (l.map ca)::R) λd m'=>d=ca l.length/\m'=.live 1 u [.own 1 v]::.live 1 v (l.map ca)::R:=by
 refine Uj k222.ok k222.nm ?_;simp only[k222,Kf.of,zs,ze,pab];refine ss (rg ?_);simp only[zz];refine ss (rg ?_);simp only[zz];exact rt ⟨_,rfl,rfl,rfl⟩
theorem Pop_T{x:Int}(hl:l.length<1000000000) (hR:R.all (Ent.below (R.length+2))=true) :
 CallT Tryz.prog 317 [.ref 0 u 0 0] (.live 1 u [.own 1 v]::.live 1 v ((l++[x]).map ca)::R) λd m'=>d=.ifc 3 (ca x)/\m'=.live 1 u [.own 1 (v+1)]::.live 1 (v+1) (l.map ca)::R:=by
 refine Uj k317.ok k317.nm ?_;simp only[k317,Kf.of,zs,ze,pab];refine ss (rg ?_);simp only[zz];refine ss (rg ?_);simp only[zz];have a:aa .i64 (((l.length+1:Nat):Int)-1)=(l.length:Int):=by grind[zu]
 have h2:(l++[x])[l.length]?=some x:=by simp
 have b:l.length<l.length+1:=by omega
 refine ss (rg ?_);simp only[zz,a,h2,b];refine ss (T.regC 5 ?_);simp only[RegC_s,RegC_0,zz,a,h2,b];refine⟨by omega,?_⟩;refine ss (rg ?_);simp only[zz];refine rt ⟨_,rfl,rfl,?_⟩;simp
section
variable {l:List Int} {v u:Nat} {R:List Ent}
def Ax(l:List Int) (v u:Nat) (R:List Ent):List Ent:=.live 1 u [.own 1 v]::.live 1 v (l.map ca)::R
theorem uv:JD (.live 1 u [.own 1 v]::R) [(317,k,some (false,1)),y] (.ifc 317 (.ref 0 u 0 0))=.fn k [.own 1 v] []:=by
 simp_all[JD,da,St.ev,D.ok,Tm.part,oC]
theorem T0{x:TypeId×FuncId×Option (Bool×Nat)}(hx:(317==x.1)=false):JD (.live 1 u [.own 1 v]::R) [x,(317,k,some (false,1)),y] (.ifc 317 (.ref 0 u 0 0))=.fn k [.own 1 v] []:=by
 simp[JD,List.lookup,da,St.ev,D.ok,oC,hx,Tm.part]
theorem U0:JD m [(317,k,none)] (.ifc 317 (.ref 0 u 0 0))=.fn k [.ref 0 u 0 0] []:=rfl
theorem Jj{r:Operand}{tb:List (TypeId×FuncId×Option (Bool×Nat))}:s.ec (.meth r tb)=JD s.m tb (s.ev r):=rfl
theorem LR:s.ec (.func k)=.fn k [] []:=rfl
theorem Sy{l:List Int}(hR:R.all (Ent.below (R.length+2))=true) (hN:N<=R.length+2) (ht:belows (R.length+2) t=true):Fit N ⟨t,Ax l v u R⟩:=by
 refine⟨hN,ht,?_⟩
 simp_all[Ax,Ent.below,belows,Tm.below,Cb,Fr.l]
theorem NB{l:List Int}(hi:i<l.length) (hj:j<l.length):(l.set i l[j]).set j l[i]=swp l i j:=by grind[swp,Mj]
theorem up_T{l:List Int}{v:Nat}{u:Nat}{R:List Ent}(p:R.all (Ent.below (R.length+2))=true) (hj:j<l.length) (hl:l.length<1000000000) (hu:HpU l j) :
 CallT Tryz.prog 233 [.ifc 317 (.ref 0 u 0 0),ca j] (Ax l v u R) λd m'=>d=.tup []/\∃l',l'.Perm l/\Hp l' l'.length/\m'=Ax l' v u R:=by
 refine Uj k233.ok k233.nm ?_;simp only[k233,Kf.of,zs,ze,pab];refine T.zY ?_;refine T.QL (X:=List Int×Nat) (λy=>⟨.ifc 317 (.ref 0 u 0 0)::ca y.2::ds 21 [],Ax y.1 v u R⟩) (λy=>y.2<y.1.length/\y.1.Perm l/\HpU y.1 y.2) (λy=>y.1.Perm l/\Hp y.1 y.1.length) (λy=>y.2) (l,j) ⟨hj,.refl _,hu⟩ (At.same _ _ _ (la.pb _)) ?_ ?_ (λ_=>stab_C) ?_
 .rintro⟨a,i⟩ -;exact Sy p (Haa _) (by simp_all[belows,Tm.below,Ij,Sk,cc,Fr.h])
 .rintro⟨a,i⟩ ⟨c,h2,f⟩;dsimp only at c h2 f;have h5:=h2.length_eq;unfold Ax;have hw:aa .i64 ((aa .i64 ((i:Int)-1)).tdiv 2)=(((i-1) / 2:Nat):Int):=by
   rw[zu (n:=(i:Int)-1) ⟨by omega,by omega⟩]
   cases i with
   |zero=>rfl
   |succ n=>
    rw[show((n+1:Nat):Int)-1=(n:Int) by omega,show Int.tdiv (n:Int) 2=((n / 2:Nat):Int)from rfl,zu ⟨by omega,by omega⟩];simp
  refine bk (ss (rg ?_));simp only[zz,hw];refine ss (ss (T.uz ?_));by_cases o:i=0
  .subst o;have e:((((0-1) / 2:Nat):Int)==0)=true:=rfl;simp only[zD,zz,xab,nab,e];refine cd rfl ?_;simp only[zz];refine xt ?_;simp only[zz,Lp];exact⟨(a,0),⟨h2,q6 f (.inl rfl)⟩,At.same _ _ _ (by repeat (first|exact la.pb _|refine la.cons (Sub.refl _) ?_|refine la.cons (Sub.Ia _) ?_))⟩
  .have g:¬(((i-1) / 2:Nat):Int)=(i:Int):=by omega
   have e:((((i-1) / 2:Nat):Int)==(i:Int))=false:=by simp_all
   have m:(i-1) / 2<a.length:=by omega
   simp only[zD,zz,xab,nab,e,g,Jj,uv];refine Ub (ZE c m) ?_;by_cases k:Cq a i<Cq a ((i-1) / 2)
   .have b:decide (a[i]<a[(i-1) / 2])=true:=by grind[Mj]
    simp only[zD,zz,xab,nab,e,g,b,oq];refine cd rfl ?_;simp only[zz];refine sk ?_;simp only[zz];refine ss (T.uz ?_);simp only[zD,zz,Jj,uv];refine Ub (bF m c) ?_;simp only[zD,zz];refine rg ?_;simp only[zz,En];refine⟨(swp a ((i-1) / 2) i,(i-1) / 2),⟨by grind[MB],(Ey m c).trans h2,up_go f (by omega) c k⟩,by omega,?_⟩;rw[NB];exact At.same _ _ _ (by repeat (first|exact la.pb _|refine la.cons (Sub.refl _) ?_|refine la.cons (Sub.Ia _) ?_))
   .have b:decide (a[i]<a[(i-1) / 2])=false:=by grind[Mj]
    simp only[zD,zz,xab,nab,e,g,b,oq];refine cd rfl ?_;simp only[zz];refine xt ?_;simp only[zz,Lp];exact⟨(a,i),⟨h2,q6 f (.inr (by simp_all))⟩,At.same _ _ _ (by repeat (first|exact la.pb _|refine la.cons (Sub.refl _) ?_|refine la.cons (Sub.Ia _) ?_))⟩
 .rintro⟨a,i⟩ ⟨c,h2⟩;exact yL.of ⟨_,rfl,rfl,a,c,h2,rfl⟩
theorem down_T{l:List Int}{v:Nat}{u:Nat}{R:List Ent}(B:R.all (Ent.below (R.length+2))=true) (hn:n<l.length) (hl:l.length<1000000000) (hd:HpD l n 0) :
 CallT Tryz.prog 234 [.ifc 317 (.ref 0 u 0 0),.v (.int .i64 0),ca n] (Ax l v u R) λd m'=>(∃b,d=.v (.bool b))/\∃l',l'.Perm l/\Hp l' n/\Cq l' n=Cq l n/\m'=Ax l' v u R:=by
 refine Uj k234.ok k234.nm ?_;simp only[k234,Kf.of,zs,ze,pab];refine T.zY ?_;refine ss (rg ?_);simp only[zz];refine ss (rg ?_);simp only[zz];refine ss ?_;refine T.QL (X:=List Int×Nat) (λy=>⟨.ifc 317 (.ref 0 u 0 0)::.v (.int .i64 0)::ca n::.dead::.dead::.dead::.v (.bool false)::ca y.2::ds 40 [],Ax y.1 v u R⟩) (λy=>y.2<=n/\y.1.Perm l/\HpD y.1 n y.2/\Cq y.1 n=Cq l n) (λy=>y.1.Perm l/\Hp y.1 n/\Cq y.1 n=Cq l n) (λy=>n-y.2) (l,0) ⟨Nat.zero_le _,.refl _,hd,rfl⟩ (At.same _ _ _ (by repeat (first|exact la.pb _|refine la.cons (Sub.refl _) ?_|refine la.cons (Sub.Ia _) ?_))) ?_ ?_ (λ_=>uu) ?_
 .rintro⟨a,i⟩ -;exact Sy B (Haa _) (by simp_all[belows,Tm.below,Ij,Sk,cc,Fr.h])
 .rintro⟨a,i⟩ ⟨s,h2,g,p⟩;dsimp only at s h2 g p;have h5:=h2.length_eq;unfold Ax;have C:aa .i64 (2*(i:Int))=((2*i:Nat):Int):=by grind[zu]
  have D:aa .i64 (((2*i:Nat):Int)+1)=((2*i+1:Nat):Int):=by grind[zu]
  have E:aa .i64 (((2*i+1:Nat):Int)+1)=((2*i+2:Nat):Int):=by grind[zu]
  refine bk (ss (rg ?_));simp only[zz,C,D];refine ss (ss (T.uz ?_));by_cases z:n<=2*i+1
  .have t:decide (((n:Nat):Int)<=((2*i+1:Nat):Int))=true:=decide_eq_true (by omega);simp only[zD,zz,xab,nab,t];refine cd rfl ?_;simp only[zz];refine xt ?_;simp only[zz,Lp];exact⟨(a,i),⟨h2,IU g z,p⟩,At.same _ _ _ (by repeat (first|exact la.pb _|refine la.cons (Sub.refl _) ?_|refine la.cons (Sub.Ia _) ?_))⟩
  .have t:decide (((n:Nat):Int)<=((2*i+1:Nat):Int))=false:=decide_eq_false (by omega);have w:decide (((2*i+1:Nat):Int)<0)=false:=decide_eq_false (by omega);have f:i<a.length:=by omega
   simp only[zD,zz,xab,nab,t,w];refine cd rfl ?_;simp only[zz];refine sk ?_;simp only[zz];refine ss (rg ?_);simp only[zz];refine ss (ss (rg ?_));simp only[zz,E];refine ss (T.uz ?_);by_cases x:2*i+2<n
   .have m:decide (((2*i+2:Nat):Int)<(n:Int))=true:=decide_eq_true (by omega);have q:2*i+1<a.length:=by omega
    have r:2*i+2<a.length:=by omega
    simp only[zD,zz,xab,nab,m,Jj,uv];refine Ub (ZE (i:=2*i+2) (j:=2*i+1) r q) ?_;by_cases A:Cq a (2*i+2)<Cq a (2*i+1)
    .have o:decide (a[2*i+2]<a[2*i+1])=true:=by grind[Mj]
     have hc:=cm_2 x A;have e:=r;simp only[zD,zz,xab,nab,o];refine cd rfl ?_;simp only[zz];refine rg ?_;simp only[zz];refine ss (ss (T.uz ?_));simp only[zD,zz,Jj,uv];refine Ub (ZE (i:=(2*i+2)) (j:=i) e f) ?_;by_cases k:Cq a (2*i+2)<Cq a i
     .have c:decide (a[(2*i+2)]<a[i])=true:=by grind[Mj]
      simp only[zD,zz,c,oq];refine cd rfl ?_;simp only[zz];refine sk ?_;simp only[zz];refine ss (T.uz ?_);simp only[zD,zz,Jj,uv];refine Ub (bF (i:=i) (j:=(2*i+2)) f e) ?_;simp only[zD,zz];refine rg ?_;simp only[zz,En];refine⟨(swp a i (2*i+2),(2*i+2)),⟨by omega,(Ey f e).trans h2,fK g (by omega) hc k,?_⟩,by omega,?_⟩
      .dsimp only;rw[xm f e,if_neg (by omega),if_neg (by omega)];omega
      rw[NB];exact At.same _ _ _ (by repeat (first|exact la.pb _|refine la.cons (Sub.refl _) ?_|refine la.cons (Sub.Ia _) ?_))
     .have c:decide (a[(2*i+2)]<a[i])=false:=by grind[Mj]
      simp only[zD,zz,c,oq];refine cd rfl ?_;simp only[zz];refine xt ?_;simp only[zz,Lp];exact⟨(a,i),⟨h2,GF g hc (by simp_all),p⟩,At.same _ _ _ (by repeat (first|exact la.pb _|refine la.cons (Sub.refl _) ?_|refine la.cons (Sub.Ia _) ?_))⟩
    .have o:decide (a[2*i+2]<a[2*i+1])=false:=by grind[Mj]
     have hc:CmH a n i (2*i+1):=cm_1 (by omega) λ_=>by omega
     have e:=q;simp only[zD,zz,xab,nab,o];refine cd rfl ?_;simp only[zz];refine sk ?_;simp only[zz];refine ss (ss (T.uz ?_));simp only[zD,zz,Jj,uv];refine Ub (ZE (i:=(2*i+1)) (j:=i) e f) ?_;by_cases k:Cq a (2*i+1)<Cq a i
     .have c:decide (a[(2*i+1)]<a[i])=true:=by grind[Mj]
      simp only[zD,zz,c,oq];refine cd rfl ?_;simp only[zz];refine sk ?_;simp only[zz];refine ss (T.uz ?_);simp only[zD,zz,Jj,uv];refine Ub (bF (i:=i) (j:=(2*i+1)) f e) ?_;simp only[zD,zz];refine rg ?_;simp only[zz,En];refine⟨(swp a i (2*i+1),(2*i+1)),⟨by omega,(Ey f e).trans h2,fK g (by omega) hc k,?_⟩,by omega,?_⟩
      .dsimp only;rw[xm f e,if_neg (by omega),if_neg (by omega)];omega
      rw[NB];exact At.same _ _ _ (by repeat (first|exact la.pb _|refine la.cons (Sub.refl _) ?_|refine la.cons (Sub.Ia _) ?_))
     .have c:decide (a[(2*i+1)]<a[i])=false:=by grind[Mj]
      simp only[zD,zz,c,oq];refine cd rfl ?_;simp only[zz];refine xt ?_;simp only[zz,Lp];exact⟨(a,i),⟨h2,GF g hc (by simp_all),p⟩,At.same _ _ _ (by repeat (first|exact la.pb _|refine la.cons (Sub.refl _) ?_|refine la.cons (Sub.Ia _) ?_))⟩
   .have m:decide (((2*i+2:Nat):Int)<(n:Int))=false:=decide_eq_false (by omega);have e:2*i+1<a.length:=by omega
    have hc:CmH a n i (2*i+1):=cm_1 (by omega) λh=>(x h).elim;simp only[zD,zz,xab,nab,m];refine cd rfl ?_;simp only[zz];refine sk ?_;simp only[zz];refine ss (ss (T.uz ?_));simp only[zD,zz,Jj,uv];refine Ub (ZE (i:=(2*i+1)) (j:=i) e f) ?_;by_cases k:Cq a (2*i+1)<Cq a i
    .have c:decide (a[(2*i+1)]<a[i])=true:=by grind[Mj]
     simp only[zD,zz,c,oq];refine cd rfl ?_;simp only[zz];refine sk ?_;simp only[zz];refine ss (T.uz ?_);simp only[zD,zz,Jj,uv];refine Ub (bF (i:=i) (j:=(2*i+1)) f e) ?_;simp only[zD,zz];refine rg ?_;simp only[zz,En];refine⟨(swp a i (2*i+1),(2*i+1)),⟨by omega,(Ey f e).trans h2,fK g (by omega) hc k,?_⟩,by omega,?_⟩
     .dsimp only;rw[xm f e,if_neg (by omega),if_neg (by omega)];omega
     rw[NB];exact At.same _ _ _ (by repeat (first|exact la.pb _|refine la.cons (Sub.refl _) ?_|refine la.cons (Sub.Ia _) ?_))
    .have c:decide (a[(2*i+1)]<a[i])=false:=by grind[Mj]
     simp only[zD,zz,c,oq];refine cd rfl ?_;simp only[zz];refine xt ?_;simp only[zz,Lp];exact⟨(a,i),⟨h2,GF g hc (by simp_all),p⟩,At.same _ _ _ (by repeat (first|exact la.pb _|refine la.cons (Sub.refl _) ?_|refine la.cons (Sub.Ia _) ?_))⟩
 .rintro⟨a,i⟩ ⟨s,h2,g⟩;unfold Ax;dsimp only at s h2 g;simp only[zz];refine ss (rg ?_);simp only[zz];exact rt (yL.of ⟨_,rfl,⟨_,rfl⟩,a,s,h2,g,rfl⟩)
theorem nS{l:List Int}{x:Int}{v:Nat}{u:Nat}{R:List Ent}(b:R.all (Ent.below (R.length+2))=true) (hl:l.length<100000000) (e:Hp l l.length) :
 CallT Tryz.prog 221 [.ifc 317 (.ref 0 u 0 0),.ifc 3 (ca x)] (Ax l v u R) λd m'=>d=.tup []/\∃l',l'.Perm (l++[x])/\Hp l' l'.length/\m'=Ax l' (v+1) u R:=by
 refine Uj k221.ok k221.nm ?_;simp only[k221,Kf.of,zs,ze,pab];unfold Ax;refine ss (T.uz ?_);simp only[zD,zz,Jj,U0];refine Ub (Push_T (by omega) b) ?_;simp only[zD,zz];refine T.uz ?_;simp only[zD,zz,Jj];rw[T0 rfl];simp only[zD,zz,Jj];refine Ub EX ?_;have f:aa .i64 (((l.length+1:Nat):Int)-1)=((l.length:Nat):Int):=by grind[zu]
 have a:(l++[x]).length=l.length+1:=by simp
 simp only[zD,zz,a,f,LR];refine Gv (up_T (j:=l.length) b (by omega) (by omega) (push_U e)) ?_;rintro d m' ⟨rfl,l',c,h2,rfl⟩;simp only[zD,zz];exact⟨_,rfl,rfl,l',c,h2,rfl⟩
theorem hpop_T{l:List Int}{v:Nat}{u:Nat}{R:List Ent}(f:R.all (Ent.below (R.length+2))=true) (hl:l.length<100000000) (hn:l.length=n+1) (g:Hp l l.length) :
 CallT Tryz.prog 223 [.ifc 317 (.ref 0 u 0 0)] (Ax l v u R) λd m'=>∃x l',d=.ifc 3 (ca x)/\(x::l').Perm l/\(∀y∈l',x<=y)/\Hp l' l'.length/\m'=Ax l' (v+1) u R:=by
 refine Uj k223.ok k223.nm ?_;simp only[k223,Kf.of,zs,ze,pab];unfold Ax;refine ss (rg ?_);simp only[zz];refine ss (T.uz ?_);simp only[zD,zz,Jj];rw[T0 rfl];simp only[zD,zz,Jj];refine Ub EX ?_;have p:aa .i64 (((n+1:Nat):Int)-1)=((n:Nat):Int):=by grind[zu]
 simp only[zD,zz,hn,p];refine ss (T.uz ?_);simp only[zD,zz,Jj,uv];refine Ub (bF (i:=0) (j:=n) (by omega) (by omega)) ?_;simp only[zD,zz];rw[NB];refine ss (T.uz ?_);simp only[zD,zz,LR];refine Gv (down_T (n:=n) f (by grind[MB]) (by grind[MB]) (pop_D g hn)) ?_;rintro d m' ⟨⟨b,rfl⟩,l',h,h2,m,rfl⟩;have e:l'.Perm l:=h.trans (Ey (by omega) (by omega));have hln:l'.length=n+1:=by rw[e.length_eq,hn]
 obtain⟨c,x,rfl⟩:∃c x,l'=c++[x]:=⟨l'.dropLast,l'.getLast (by grind),(List.dropLast_concat_getLast _).symm⟩;have hl3:c.length=n:=by simp_all
 have hx:x=Cq l 0:=by
  rw[xm (by omega) (by omega),if_pos rfl]at m
  grind[Mj]
 unfold Ax;simp only[zD,zz];refine ss (T.uz ?_);simp only[zD,zz,Jj,U0];refine Ub (Pop_T (by omega) f) ?_;simp only[zD,zz];have a:(x::c).Perm l:=(List.perm_append_comm (l₁:=[x]) (l₂:=c)).trans e;refine rt ⟨_,rfl,x,c,rfl,a,λy o=>?_,?_,rfl⟩
 .obtain⟨k,hk,rfl⟩:=List.getElem_of_mem (a.mem_iff.1 (List.mem_cons_of_mem _ o));rw[hx,←Mj hk];exact hp_min g k hk
 .have:=X9 h2 (by omega)
  simp_all
end
end Go.Proofs.Dev
