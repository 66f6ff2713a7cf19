/-
  Contracts by hand: the conditions stand in each.
-/
import Derived.Test.YtmhfebelfmgckaaGreatDoorED
import Derived.Test.YtmhfebelfmgckaaGreatDoorC3
import Derived.Test.YtmhfebelfmgckaaGreatDoorPD
import Derived.Test.YtmhfebelfmgckaaGreatDoorPA
import Derived.Test.YtmhfebelfmgckaaGreatDoorC0
import Derived.Test.YtmhfebelfmgckaaGreatDoorC1
import Derived.Test.YtmhfebelfmgckaaGreatDoorC2
open And renaming intro->ak
open Go.Proofs.Tryz renaming prog->al
open Eq renaming trans->Caa
open List renaming getD_cons_succ->iab,getD_cons_zero->vab,getElem?_eq_getElem->Baa,map_set->oad,replicate_succ->jab
open Nat renaming le_refl->Paa
open Option renaming map_eq_some_iff->Faa
set_option linter.all false
set_option maxHeartbeats 1000000
namespace Go.Tm
variable {S N:Nat}{x:Operand}{lo hi:Option Operand}{dst:Option Tmp}{i:I}{l:List RI}{K:Exit->St->Prop}{A B:Prop}
section
variable {P:Program} {G:Gh} {w:World} {a:Act} {s:St} {d:D} {m':List Ent}
def qX(P:Program):Nat->List RI->(St->Prop)->St->Prop
 |0,.op dst none (.slice S x lo hi none)::l,K,s=>Ys (fa s (.trunc S x lo hi)) (KO (Oi P l K) s dst)
 |n+1,.op dst none i::l,K,s=>Ys (fa s i) (KO (qX P n l K) s dst)
 |_,_,_,_=>False
theorem XP{op:Op}(h:sH P op=some (.slice S x lo hi none)) :
 ∃t e i,op=.slice t x lo hi none/\P.underlying t=some (.slice e)/\P.info? e=some i/\S=i.size:=by
 unfold sH at h;split at h
 all_goals (try (simp at h;done))
 all_goals (try ((repeat' split at h)<;>(try (simp at h;done))))
 all_goals (try (simp only[Faa,reduceCtorEq,and_false,exists_false]at h;done))
 all_goals (try (simp only[Faa,I.slice.injEq]at h;grind))
theorem op_in{ops:Array Oper}{o:Oper}(h:cr P ops o=some (.op dst none i)):o.dst=dst/\guardOf ops o.guard=some none/\zu P ops o o.op=some i:=by
 unfold cr at h;split at h
 .cases h
 .rename_i g hg;split at h
  .cases h
  .simp only[Faa]at h
   grind
theorem TK{ops:Array Oper}{Q:Exit->Act->World->Prop}{K:St->Prop}:∀{n:Nat}{l:List Oper}{rl:List RI}{s:St}{G:Gh}{w:World}{a:Act},Nh P ops l=some rl->qX P n rl K s->Rel G w a s->
 (∀s' G' w' a',K s'->Rel G' w' a' s'->Step G w s.m G' w' s'.m->Q .normal a' w')->wpList P ops Q l a w
 |n,[],rl,s,G,w,a,hc,h,hr,hQ=>by
  simp only[Nh]at hc;injection hc with hc;subst hc;cases n<;>exact h.elim
 |n,o::l,rl,s,G,w,a,hc,h,hr,hQ=>by
  simp only[Nh]at hc;split at hc
  case h_2=>grind
  rename_i r rs D h2;injection hc with hc;subst hc
  cases r with
  |call dst g f args=>cases n<;>exact h.elim
  |op dst g i=>
   cases g with
   |some g=>cases n<;>exact h.elim
   |none=>
    obtain⟨rfl,A,hi⟩:=op_in D;obtain⟨b,-⟩:=Gp hr A;rw[wpList,if_pos (b rfl o rfl)];refine .inl ?_
    cases n with
    |zero=>
     cases i with
     |slice S x lo hi' mx=>
      cases mx with
      |some _=>exact h.elim
      |none=>
       obtain⟨d,m',he,p⟩:=(Qn _ _).1 h;have A:Good G w s.m ((execOp a.eval o).run P w) d m':=by
        unfold zu at hi;split at hi
        .rename_i i' c;injection hi with hi;subst hi;unfold OC at c;split at c
         .split at c
          .split at c
           all_goals simp_all
          simp_all
         simp_all
        .obtain⟨t,e,i,ho,ht,hin,rfl⟩:=XP hi
         grind[MV]
       exact hr.Lu A λG' w' u q v=>sE h2 (mw p) q λy j z k B C k3=>hQ y j z k B C (v.trans (by grind[QH]))
     |_=>exact h.elim
    |succ n=>
     obtain⟨d,m',he,p⟩:=(Qn _ _).1 h;exact hr.Lu (nC hi hr he) λG' w' u q v=>TK h2 p q λy j z k B C k3=>hQ y j z k B C (v.trans (by grind[QH]))
theorem T.regC(n:Nat) {s:St}(h:qX P n l (K .normal) s):T P N (.IS l) K s:=by
 intro code hc G w a hN hr;obtain⟨id,ops,rfl,b⟩:=YP hc;exact wp_region_list (TK b h hr λs' G' w' a' c h2 d=>⟨s',G',c,h2,d.toN hN⟩)
theorem RegC_0{K:St->Prop}:qX P 0 (.op dst none (.slice S x lo hi none)::l) K s=Ys (fa s (.trunc S x lo hi)) (KO (Oi P l K) s dst):=Caa rfl rfl
theorem RegC_s{n:Nat}{K:St->Prop}:qX P (n+1) (.op dst none i::l) K s=Ys (fa s i) (KO (qX P n l K) s dst):=by cases i<;>rfl
def Ux(P:Program):List RI->(St->Prop)->St->Prop
 |[],K,s=>K s
 |.op dst g i::l,K,s=>
  match gate s g with
  |none=>False
  |some none=>Ys (fa s i) (KO (Ux P l K) s dst)
  |some (some (c,b))=>if c=b then Ys (fa s i) (KO (Ux P l K) s dst)else Ux P l K (s.put dst (.v undef))
 |.call dst g f args::l,K,s=>
  match gate s g with
  |none=>False
  |some none=>(match s.ec f with|.fn k first caps=>Cf P k (first++args.map s.ev++caps) s.m (KO (Ux P l K) s dst)|_=>False)
  |some (some (c,b))=>if c=b then(match s.ec f with|.fn k first caps=>Cf P k (first++args.map s.ev++caps) s.m (KO (Ux P l K) s dst)|_=>False)else Ux P l K (s.put dst (.v undef))
theorem iC:∀{l:List RI}{K:St->Prop}{s:St},Ux P l K s->Rl P l K s
 |[],K,s,h=>h
 |.op dst g i::l,K,s,h=>by
  simp only[Ux]at h;simp only[Rl];split at h
  .simp_all
  .rename_i a;obtain⟨d,m',j,h2⟩:=(Qn _ _).1 h;rw[a];exact⟨d,m',j,iC h2⟩
  .rename_i c b a;rw[a];refine⟨λhc=>?_,λhc=>?_⟩
   .rw[if_pos hc]at h;obtain⟨d,m',j,h2⟩:=(Qn _ _).1 h;exact⟨d,m',j,iC h2⟩
   .rw[if_neg hc]at h;exact iC h
 |.call dst g f args::l,K,s,h=>by
  simp only[Ux]at h;simp only[Rl];split at h
  .simp_all
  .rename_i a;split at h
   .rename_i k first caps hf
    rw[hf];dsimp only;rw[a];exact h.mono λd m' e=>iC e
   simp_all
  .rename_i c b a;by_cases hc:c=b
   .rw[if_pos hc]at h;split at h
    .rename_i k first caps hf
     rw[hf];dsimp only;rw[a];exact⟨λ_=>h.mono λd m' e=>iC e,λhn=>(hn hc).elim⟩
    simp_all
   .rw[if_neg hc]at h;cases s.ec f<;>dsimp only<;>rw[a]<;>first|exact⟨hc,iC h⟩|exact⟨λhn=>(hc hn).elim,λ_=>iC h⟩
def gE(d:D) (b:Bool) (A B:Prop):Prop:=
 match d with
 |.v (.bool c)=>if c=b then A else B
 |.v _=>if(!b)=b then A else B
 |_=>False
@[congr] theorem gE_congr{d d':D} {b:Bool} {A B:Prop} (h:d=d'):gE d b A B=gE d' b A B:=by rw[h]
theorem gE_t:gE (.v (.bool true)) true A B=A:=by simp[gE]
theorem gE_f:gE (.v (.bool false)) false A B=A:=by simp[gE]
theorem gE_tf:gE (.v (.bool true)) false A B=B:=by simp[gE]
theorem gE_ft:gE (.v (.bool false)) true A B=B:=by simp[gE]
def RP(P:Program) (d:D) (ds:List D) (m:List Ent) (f:D->List Ent->Prop):Prop:=match d with|.fn k first caps=>Cf P k (first++ds++caps) m f|_=>False
@[congr] theorem callM_congr{d d':D} {ds ds':List D} {m m':List Ent} {f:D->List Ent->Prop} (h:d=d') (h2:ds=ds') (h3:m=m'):RP P d ds m f=RP P d' ds' m' f:=by simp_all
theorem callM_f{k:Nat}{a c ds:List D}{m:List Ent}{f:D->List Ent->Prop}:RP P (.fn k a c) ds m f=Cf P k (a++ds++c) m f:=Caa rfl rfl
section
variable {dst:Option Tmp} {i:I} {l:List RI} {K:St->Prop} {g:Nat×Bool} {f:Cal} {args:List Operand}
theorem P2:Ux P [] K s=K s:=Caa rfl rfl
theorem RegD_op:Ux P (.op dst none i::l) K s=Ys (fa s i) (KO (Ux P l K) s dst):=Caa rfl rfl
theorem NV:(match gate s (some g)with|none=>False|some none=>A|some (some (c,b))=>if c=b then A else B)=gE (s.t.getD g.1 .dead) g.2 A B:=by
 obtain⟨t,b⟩:=g;simp only[gate,gE]
 grind
theorem Q2:Ux P (.op dst (some g) i::l) K s=gE (s.t.getD g.1 .dead) g.2 (Ys (fa s i) (KO (Ux P l K) s dst)) (Ux P l K (s.put dst (.v undef))):=by
 rw[←NV,Ux]
theorem RegD_ca:Ux P (.call dst none f args::l) K s=RP P (s.ec f) (args.map s.ev) s.m (KO (Ux P l K) s dst):=Caa rfl rfl
theorem O2:Ux P (.call dst (some g) f args::l) K s=gE (s.t.getD g.1 .dead) g.2 (RP P (s.ec f) (args.map s.ev) s.m (KO (Ux P l K) s dst)) (Ux P l K (s.put dst (.v undef))):=Caa rfl NV
def zD:=(ak (ak (ak @P2 @RegD_op) (ak @Q2 @RegD_ca)) (ak (ak @O2 @callM_f) (ak (ak @gE_t @gE_f) (ak @gE_tf @gE_ft))))
end
theorem T.lD{s:St}(h:Ux P l (K .normal) s):T P N (.IS l) K s:=T.IS (iC h)
end
end Go.Tm
set_option maxRecDepth 10000
namespace Go.Proofs.Dev
open Go Go.Tm
variable {N i j v u k n:Nat}{t:List D}{m R:List Ent}{l:List Int}{y:TypeId×FuncId×Option (Bool×Nat)}{s:St}
theorem wend{K:Exit->St->Prop}{e:Exit}{t':List D}{g:List Ent}(c:xa t t') (hN:N<=m.length) (ht:belows m.length t'=true) (hm:m.all (Ent.below m.length)=true) (h:K e ⟨t',m⟩):yP N K e ⟨t,m++g⟩:=
 λG w a b hr=>by
  obtain⟨G',k1,k2⟩:=KP (At.mk t t' m g c) ⟨hN,ht,hm⟩ G w a b hr
  grind
theorem eJ(hi:i<l.length) (hj:j<l.length) :
 CallT al 524 [.own 1 v,da i,da j] (.live 1 u [.own 1 v]::.live 1 v (l.map da)::R) λd m'=>d=.v (.bool (decide (l[i]<l[j])))/\m'=.live 1 u [.own 1 v]::.live 1 v (l.map da)::R:=by
 refine gm k524.ok k524.nm ?_;simp only[k524,Kf.of,zs,ze,jab];have g1:l[i]?=some l[i]:=Baa hi;have g2:l[j]?=some l[j]:=Baa hj;refine ss (rg ?_);simp only[zz];refine ss (dy Xx ?_);simp only[zz,zy,g1,g2,hi,hj];exact rt ⟨_,rfl,rfl,rfl⟩
theorem Push_T{x:Int}(hl:(l.length+1)*8<=2 ^ 47) (a:R.all (Ent.below (R.length+2))=true) :
 CallT al 526 [.ref 0 u 0 0,.ifc 3 (da x)] (.live 1 u [.own 1 v]::.live 1 v (l.map da)::R) λd m'=>d=.tup []/\m'=.live 1 u [.own 1 (v+1)]::.live 1 (v+1) ((l++[x]).map da)::R:=by
 refine gm k526.ok k526.nm ?_;simp only[k526,Kf.of,zs,ze,jab];refine T.D4 ?_;refine ss (rg ?_);simp only[zz];refine ss (rg ?_);simp only[zz];refine cd rfl ?_;simp only[zz];refine rg ?_;simp only[zz,List.getElem?_concat_length,hl];refine wend (t':=ds 20 []) (m:=.live 1 u [.own 1 (v+1)]::.live 1 (v+1) ((l.map da)++[da x])::R) (by repeat (first|exact xa.Dc _|refine xa.cons (Sub.sb _) ?_)) (by simp) rfl ?_ ⟨_,rfl,rfl,?_⟩
 .simp only[List.all_cons,Bool.and_eq_true,List.length_cons];refine⟨?_,Zd _ _ ?_,a⟩
  .simp_all[Ent.below,belows,Tm.below]
  .exact r6 (Fr.l _) rfl
 simp
theorem gJ(hi:i<l.length) (hj:j<l.length) :
 CallT al 527 [.own 1 v,da i,da j] (.live 1 u [.own 1 v]::.live 1 v (l.map da)::R) λd m'=>d=.tup []/\m'=.live 1 u [.own 1 v]::.live 1 v (((l.set i l[j]).set j l[i]).map da)::R:=by
 refine gm k527.ok k527.nm ?_;simp only[k527,Kf.of,zs,ze,jab];have g1:l[i]?=some l[i]:=Baa hi;have g2:l[j]?=some l[j]:=Baa hj;simp only[zz];refine ay Xx [[],[],[],[],[],[],[],[],[],[],[],[],[],[]] (by kernel_rfl) ?_;have g3:((l.map da).set i (D.v (Value.int IntKind.i64 l[j])))[j]?=some (.v (.int .i64 ((l.set i l[j])[j]'(by simp_all)))):=by
  rw[show(D.v (Value.int IntKind.i64 l[j]))=da l[j]from rfl,←oad,List.getElem?_map,Baa (by simp_all)];rfl
 have g4:j<((l.map da).set i (D.v (Value.int IntKind.i64 l[j]))).length:=by simp_all
 simp only[zz,zy,g1,g2,g3,g4,hi,hj];refine⟨_,rfl,rfl,?_⟩;rw[oad,oad];rfl
theorem L2:
 CallT al 322 [.own 1 v] (.live 1 u [.own 1 v]::.live 1 v (l.map da)::R) λd m'=>d=da l.length/\m'=.live 1 u [.own 1 v]::.live 1 v (l.map da)::R:=by
 refine gm k322.ok k322.nm ?_;simp only[k322,Kf.of,zs,ze,jab];refine ss (rg ?_);simp only[zz];refine ss (rg ?_);simp only[zz];exact rt ⟨_,rfl,rfl,rfl⟩
theorem Pop_T{x:Int}(hl:l.length<1000000000) (hR:R.all (Ent.below (R.length+2))=true) :
 CallT al 525 [.ref 0 u 0 0] (.live 1 u [.own 1 v]::.live 1 v ((l++[x]).map da)::R) λd m'=>d=.ifc 3 (da x)/\m'=.live 1 u [.own 1 (v+1)]::.live 1 (v+1) (l.map da)::R:=by
 refine gm k525.ok k525.nm ?_;simp only[k525,Kf.of,zs,ze,jab];refine ss (rg ?_);simp only[zz];refine ss (rg ?_);simp only[zz];have a:aa .i64 (((l.length+1:Nat):Int)-1)=(l.length:Int):=by grind[Rx]
 have h2:(l++[x])[l.length]?=some x:=by simp
 have b:l.length<l.length+1:=by omega
 refine ss (rg ?_);simp only[zz,a,h2,b];refine ss (T.regC 5 ?_);simp only[RegC_s,RegC_0,zz,a,h2,b];refine⟨by omega,?_⟩;refine ss (rg ?_);simp only[zz];refine rt ⟨_,rfl,rfl,?_⟩;simp
section
variable {l:List Int} {v u:Nat} {R:List Ent}
def dB(l:List Int) (v u:Nat) (R:List Ent):List Ent:=.live 1 u [.own 1 v]::.live 1 v (l.map da)::R
theorem Yy:LH (.live 1 u [.own 1 v]::R) [(334,k,some (false,1)),y] (.ifc 334 (.ref 0 u 0 0))=.fn k [.own 1 v] []:=by
 simp_all[LH,fa,St.ev,D.ok,Tm.part,nG]
theorem T6{x:TypeId×FuncId×Option (Bool×Nat)}(hx:(334==x.1)=false):LH (.live 1 u [.own 1 v]::R) [x,(334,k,some (false,1)),y] (.ifc 334 (.ref 0 u 0 0))=.fn k [.own 1 v] []:=by
 simp[LH,List.lookup,fa,St.ev,D.ok,nG,hx,Tm.part]
theorem U6:LH m [(334,k,none)] (.ifc 334 (.ref 0 u 0 0))=.fn k [.ref 0 u 0 0] []:=rfl
theorem Xl{r:Operand}{tb:List (TypeId×FuncId×Option (Bool×Nat))}:s.ec (.meth r tb)=LH s.m tb (s.ev r):=rfl
theorem AV:s.ec (.func k)=.fn k [] []:=rfl
theorem GC{l:List Int}(hR:R.all (Ent.below (R.length+2))=true) (hN:N<=R.length+2) (ht:belows (R.length+2) t=true):Fit N ⟨t,dB l v u R⟩:=by
 refine⟨hN,ht,?_⟩
 simp_all[dB,Ent.below,belows,Tm.below,Zd,Fr.l]
theorem SF{l:List Int}(hi:i<l.length) (hj:j<l.length):(l.set i l[j]).set j l[i]=swp l i j:=by grind[swp,Yl]
theorem up_T{l:List Int}{v:Nat}{u:Nat}{R:List Ent}(p:R.all (Ent.below (R.length+2))=true) (hj:j<l.length) (hl:l.length<1000000000) (hu:HpU l j) :
 CallT al 359 [.ifc 334 (.ref 0 u 0 0),da j] (dB l v u R) λd m'=>d=.tup []/\∃l',l'.Perm l/\Hp l' l'.length/\m'=dB l' v u R:=by
 refine gm k359.ok k359.nm ?_;simp only[k359,Kf.of,zs,ze,jab];refine T.D4 ?_;refine T.NP (X:=List Int×Nat) (λy=>⟨.ifc 334 (.ref 0 u 0 0)::da y.2::ds 21 [],dB y.1 v u R⟩) (λy=>y.2<y.1.length/\y.1.Perm l/\HpU y.1 y.2) (λy=>y.1.Perm l/\Hp y.1 y.1.length) (λy=>y.2) (l,j) ⟨hj,.refl _,hu⟩ (At.same _ _ _ (xa.Dc _)) ?_ ?_ (λ_=>stab_C) ?_
 .rintro⟨a,i⟩ -;exact GC p (Paa _) (by simp_all[belows,Tm.below,Aq,Kr,Me,Fr.h])
 .rintro⟨a,i⟩ ⟨c,h2,f⟩;dsimp only at c h2 f;have h5:=h2.length_eq;unfold dB;have hw:aa .i64 ((aa .i64 ((i:Int)-1)).tdiv 2)=(((i-1) / 2:Nat):Int):=by
   rw[Rx (n:=(i:Int)-1) ⟨by omega,by omega⟩]
   cases i with
   |zero=>rfl
   |succ n=>
    rw[show((n+1:Nat):Int)-1=(n:Int) by omega,show Int.tdiv (n:Int) 2=((n / 2:Nat):Int)from rfl,Rx ⟨by omega,by omega⟩];simp
  refine bk (ss (rg ?_));simp only[zz,hw];refine ss (ss (T.lD ?_));by_cases o:i=0
  .subst o;have e:((((0-1) / 2:Nat):Int)==0)=true:=rfl;simp only[zD,zz,vab,iab,e];refine cd rfl ?_;simp only[zz];refine xt ?_;simp only[zz,Ws];exact⟨(a,0),⟨h2,up_end f (.inl rfl)⟩,At.same _ _ _ (by repeat (first|exact xa.Dc _|refine xa.cons (Sub.refl _) ?_|refine xa.cons (Sub.sb _) ?_))⟩
  .have g:¬(((i-1) / 2:Nat):Int)=(i:Int):=by omega
   have e:((((i-1) / 2:Nat):Int)==(i:Int))=false:=by simp_all
   have m:(i-1) / 2<a.length:=by omega
   simp only[zD,zz,vab,iab,e,g,Xl,Yy];refine mc (eJ c m) ?_;by_cases k:nu a i<nu a ((i-1) / 2)
   .have b:decide (a[i]<a[(i-1) / 2])=true:=by grind[Yl]
    simp only[zD,zz,vab,iab,e,g,b,Jt];refine cd rfl ?_;simp only[zz];refine sk ?_;simp only[zz];refine ss (T.lD ?_);simp only[zD,zz,Xl,Yy];refine mc (gJ m c) ?_;simp only[zD,zz];refine rg ?_;simp only[zz,vq];refine⟨(swp a ((i-1) / 2) i,(i-1) / 2),⟨by grind[RF],(pC m c).trans h2,up_go f (by omega) c k⟩,by omega,?_⟩;rw[SF];exact At.same _ _ _ (by repeat (first|exact xa.Dc _|refine xa.cons (Sub.refl _) ?_|refine xa.cons (Sub.sb _) ?_))
   .have b:decide (a[i]<a[(i-1) / 2])=false:=by grind[Yl]
    simp only[zD,zz,vab,iab,e,g,b,Jt];refine cd rfl ?_;simp only[zz];refine xt ?_;simp only[zz,Ws];exact⟨(a,i),⟨h2,up_end f (.inr (by simp_all))⟩,At.same _ _ _ (by repeat (first|exact xa.Dc _|refine xa.cons (Sub.refl _) ?_|refine xa.cons (Sub.sb _) ?_))⟩
 .rintro⟨a,i⟩ ⟨c,h2⟩;exact yP.of ⟨_,rfl,rfl,a,c,h2,rfl⟩
theorem down_T{l:List Int}{v:Nat}{u:Nat}{R:List Ent}(B:R.all (Ent.below (R.length+2))=true) (hn:n<l.length) (hl:l.length<1000000000) (hd:HpD l n 0) :
 CallT al 360 [.ifc 334 (.ref 0 u 0 0),.v (.int .i64 0),da n] (dB l v u R) λd m'=>(∃b,d=.v (.bool b))/\∃l',l'.Perm l/\Hp l' n/\nu l' n=nu l n/\m'=dB l' v u R:=by
 refine gm k360.ok k360.nm ?_;simp only[k360,Kf.of,zs,ze,jab];refine T.D4 ?_;refine ss (rg ?_);simp only[zz];refine ss (rg ?_);simp only[zz];refine ss ?_;refine T.NP (X:=List Int×Nat) (λy=>⟨.ifc 334 (.ref 0 u 0 0)::.v (.int .i64 0)::da n::.dead::.dead::.dead::.v (.bool false)::da y.2::ds 40 [],dB y.1 v u R⟩) (λy=>y.2<=n/\y.1.Perm l/\HpD y.1 n y.2/\nu y.1 n=nu l n) (λy=>y.1.Perm l/\Hp y.1 n/\nu y.1 n=nu l n) (λy=>n-y.2) (l,0) ⟨Nat.zero_le _,.refl _,hd,rfl⟩ (At.same _ _ _ (by repeat (first|exact xa.Dc _|refine xa.cons (Sub.refl _) ?_|refine xa.cons (Sub.sb _) ?_))) ?_ ?_ (λ_=>oC) ?_
 .rintro⟨a,i⟩ -;exact GC B (Paa _) (by simp_all[belows,Tm.below,Aq,Kr,Me,Fr.h])
 .rintro⟨a,i⟩ ⟨s,h2,g,p⟩;dsimp only at s h2 g p;have h5:=h2.length_eq;unfold dB;have C:aa .i64 (2*(i:Int))=((2*i:Nat):Int):=by grind[Rx]
  have D:aa .i64 (((2*i:Nat):Int)+1)=((2*i+1:Nat):Int):=by grind[Rx]
  have E:aa .i64 (((2*i+1:Nat):Int)+1)=((2*i+2:Nat):Int):=by grind[Rx]
  refine bk (ss (rg ?_));simp only[zz,C,D];refine ss (ss (T.lD ?_));by_cases z:n<=2*i+1
  .have t:decide (((n:Nat):Int)<=((2*i+1:Nat):Int))=true:=decide_eq_true (by omega);simp only[zD,zz,vab,iab,t];refine cd rfl ?_;simp only[zz];refine xt ?_;simp only[zz,Ws];exact⟨(a,i),⟨h2,WX g z,p⟩,At.same _ _ _ (by repeat (first|exact xa.Dc _|refine xa.cons (Sub.refl _) ?_|refine xa.cons (Sub.sb _) ?_))⟩
  .have t:decide (((n:Nat):Int)<=((2*i+1:Nat):Int))=false:=decide_eq_false (by omega);have w:decide (((2*i+1:Nat):Int)<0)=false:=decide_eq_false (by omega);have f:i<a.length:=by omega
   simp only[zD,zz,vab,iab,t,w];refine cd rfl ?_;simp only[zz];refine sk ?_;simp only[zz];refine ss (rg ?_);simp only[zz];refine ss (ss (rg ?_));simp only[zz,E];refine ss (T.lD ?_);by_cases x:2*i+2<n
   .have m:decide (((2*i+2:Nat):Int)<(n:Int))=true:=decide_eq_true (by omega);have q:2*i+1<a.length:=by omega
    have r:2*i+2<a.length:=by omega
    simp only[zD,zz,vab,iab,m,Xl,Yy];refine mc (eJ (i:=2*i+2) (j:=2*i+1) r q) ?_;by_cases A:nu a (2*i+2)<nu a (2*i+1)
    .have o:decide (a[2*i+2]<a[2*i+1])=true:=by grind[Yl]
     have hc:=cm_2 x A;have e:=r;simp only[zD,zz,vab,iab,o];refine cd rfl ?_;simp only[zz];refine rg ?_;simp only[zz];refine ss (ss (T.lD ?_));simp only[zD,zz,Xl,Yy];refine mc (eJ (i:=(2*i+2)) (j:=i) e f) ?_;by_cases k:nu a (2*i+2)<nu a i
     .have c:decide (a[(2*i+2)]<a[i])=true:=by grind[Yl]
      simp only[zD,zz,c,Jt];refine cd rfl ?_;simp only[zz];refine sk ?_;simp only[zz];refine ss (T.lD ?_);simp only[zD,zz,Xl,Yy];refine mc (gJ (i:=i) (j:=(2*i+2)) f e) ?_;simp only[zD,zz];refine rg ?_;simp only[zz,vq];refine⟨(swp a i (2*i+2),(2*i+2)),⟨by omega,(pC f e).trans h2,lO g (by omega) hc k,?_⟩,by omega,?_⟩
      .dsimp only;rw[Wo f e,if_neg (by omega),if_neg (by omega)];omega
      rw[SF];exact At.same _ _ _ (by repeat (first|exact xa.Dc _|refine xa.cons (Sub.refl _) ?_|refine xa.cons (Sub.sb _) ?_))
     .have c:decide (a[(2*i+2)]<a[i])=false:=by grind[Yl]
      simp only[zD,zz,c,Jt];refine cd rfl ?_;simp only[zz];refine xt ?_;simp only[zz,Ws];exact⟨(a,i),⟨h2,zJ g hc (by simp_all),p⟩,At.same _ _ _ (by repeat (first|exact xa.Dc _|refine xa.cons (Sub.refl _) ?_|refine xa.cons (Sub.sb _) ?_))⟩
    .have o:decide (a[2*i+2]<a[2*i+1])=false:=by grind[Yl]
     have hc:CmH a n i (2*i+1):=cm_1 (by omega) λ_=>by omega
     have e:=q;simp only[zD,zz,vab,iab,o];refine cd rfl ?_;simp only[zz];refine sk ?_;simp only[zz];refine ss (ss (T.lD ?_));simp only[zD,zz,Xl,Yy];refine mc (eJ (i:=(2*i+1)) (j:=i) e f) ?_;by_cases k:nu a (2*i+1)<nu a i
     .have c:decide (a[(2*i+1)]<a[i])=true:=by grind[Yl]
      simp only[zD,zz,c,Jt];refine cd rfl ?_;simp only[zz];refine sk ?_;simp only[zz];refine ss (T.lD ?_);simp only[zD,zz,Xl,Yy];refine mc (gJ (i:=i) (j:=(2*i+1)) f e) ?_;simp only[zD,zz];refine rg ?_;simp only[zz,vq];refine⟨(swp a i (2*i+1),(2*i+1)),⟨by omega,(pC f e).trans h2,lO g (by omega) hc k,?_⟩,by omega,?_⟩
      .dsimp only;rw[Wo f e,if_neg (by omega),if_neg (by omega)];omega
      rw[SF];exact At.same _ _ _ (by repeat (first|exact xa.Dc _|refine xa.cons (Sub.refl _) ?_|refine xa.cons (Sub.sb _) ?_))
     .have c:decide (a[(2*i+1)]<a[i])=false:=by grind[Yl]
      simp only[zD,zz,c,Jt];refine cd rfl ?_;simp only[zz];refine xt ?_;simp only[zz,Ws];exact⟨(a,i),⟨h2,zJ g hc (by simp_all),p⟩,At.same _ _ _ (by repeat (first|exact xa.Dc _|refine xa.cons (Sub.refl _) ?_|refine xa.cons (Sub.sb _) ?_))⟩
   .have m:decide (((2*i+2:Nat):Int)<(n:Int))=false:=decide_eq_false (by omega);have e:2*i+1<a.length:=by omega
    have hc:CmH a n i (2*i+1):=cm_1 (by omega) λh=>(x h).elim;simp only[zD,zz,vab,iab,m];refine cd rfl ?_;simp only[zz];refine sk ?_;simp only[zz];refine ss (ss (T.lD ?_));simp only[zD,zz,Xl,Yy];refine mc (eJ (i:=(2*i+1)) (j:=i) e f) ?_;by_cases k:nu a (2*i+1)<nu a i
    .have c:decide (a[(2*i+1)]<a[i])=true:=by grind[Yl]
     simp only[zD,zz,c,Jt];refine cd rfl ?_;simp only[zz];refine sk ?_;simp only[zz];refine ss (T.lD ?_);simp only[zD,zz,Xl,Yy];refine mc (gJ (i:=i) (j:=(2*i+1)) f e) ?_;simp only[zD,zz];refine rg ?_;simp only[zz,vq];refine⟨(swp a i (2*i+1),(2*i+1)),⟨by omega,(pC f e).trans h2,lO g (by omega) hc k,?_⟩,by omega,?_⟩
     .dsimp only;rw[Wo f e,if_neg (by omega),if_neg (by omega)];omega
     rw[SF];exact At.same _ _ _ (by repeat (first|exact xa.Dc _|refine xa.cons (Sub.refl _) ?_|refine xa.cons (Sub.sb _) ?_))
    .have c:decide (a[(2*i+1)]<a[i])=false:=by grind[Yl]
     simp only[zD,zz,c,Jt];refine cd rfl ?_;simp only[zz];refine xt ?_;simp only[zz,Ws];exact⟨(a,i),⟨h2,zJ g hc (by simp_all),p⟩,At.same _ _ _ (by repeat (first|exact xa.Dc _|refine xa.cons (Sub.refl _) ?_|refine xa.cons (Sub.sb _) ?_))⟩
 .rintro⟨a,i⟩ ⟨s,h2,g⟩;unfold dB;dsimp only at s h2 g;simp only[zz];refine ss (rg ?_);simp only[zz];exact rt (yP.of ⟨_,rfl,⟨_,rfl⟩,a,s,h2,g,rfl⟩)
theorem PV{l:List Int}{x:Int}{v:Nat}{u:Nat}{R:List Ent}(b:R.all (Ent.below (R.length+2))=true) (hl:l.length<100000000) (e:Hp l l.length) :
 CallT al 321 [.ifc 334 (.ref 0 u 0 0),.ifc 3 (da x)] (dB l v u R) λd m'=>d=.tup []/\∃l',l'.Perm (l++[x])/\Hp l' l'.length/\m'=dB l' (v+1) u R:=by
 refine gm k321.ok k321.nm ?_;simp only[k321,Kf.of,zs,ze,jab];unfold dB;refine ss (T.lD ?_);simp only[zD,zz,Xl,U6];refine mc (Push_T (by omega) b) ?_;simp only[zD,zz];refine T.lD ?_;simp only[zD,zz,Xl];rw[T6 rfl];simp only[zD,zz,Xl];refine mc L2 ?_;have f:aa .i64 (((l.length+1:Nat):Int)-1)=((l.length:Nat):Int):=by grind[Rx]
 have a:(l++[x]).length=l.length+1:=by simp
 simp only[zD,zz,a,f,AV];refine oz (up_T (j:=l.length) b (by omega) (by omega) (push_U e)) ?_;rintro d m' ⟨rfl,l',c,h2,rfl⟩;simp only[zD,zz];exact⟨_,rfl,rfl,l',c,h2,rfl⟩
theorem hpop_T{l:List Int}{v:Nat}{u:Nat}{R:List Ent}(f:R.all (Ent.below (R.length+2))=true) (hl:l.length<100000000) (hn:l.length=n+1) (g:Hp l l.length) :
 CallT al 323 [.ifc 334 (.ref 0 u 0 0)] (dB l v u R) λd m'=>∃x l',d=.ifc 3 (da x)/\(x::l').Perm l/\(∀y∈l',x<=y)/\Hp l' l'.length/\m'=dB l' (v+1) u R:=by
 refine gm k323.ok k323.nm ?_;simp only[k323,Kf.of,zs,ze,jab];unfold dB;refine ss (rg ?_);simp only[zz];refine ss (T.lD ?_);simp only[zD,zz,Xl];rw[T6 rfl];simp only[zD,zz,Xl];refine mc L2 ?_;have p:aa .i64 (((n+1:Nat):Int)-1)=((n:Nat):Int):=by grind[Rx]
 simp only[zD,zz,hn,p];refine ss (T.lD ?_);simp only[zD,zz,Xl,Yy];refine mc (gJ (i:=0) (j:=n) (by omega) (by omega)) ?_;simp only[zD,zz];rw[SF];refine ss (T.lD ?_);simp only[zD,zz,AV];refine oz (down_T (n:=n) f (by grind[RF]) (by grind[RF]) (pop_D g hn)) ?_;rintro d m' ⟨⟨b,rfl⟩,l',h,h2,m,rfl⟩;have e:l'.Perm l:=h.trans (pC (by omega) (by omega));have hln:l'.length=n+1:=by rw[e.length_eq,hn]
 obtain⟨c,x,rfl⟩:∃c x,l'=c++[x]:=⟨l'.dropLast,l'.getLast (by grind),(List.dropLast_concat_getLast _).symm⟩;have hl3:c.length=n:=by simp_all
 have hx:x=nu l 0:=by
  rw[Wo (by omega) (by omega),if_pos rfl]at m
  grind[Yl]
 unfold dB;simp only[zD,zz];refine ss (T.lD ?_);simp only[zD,zz,Xl,U6];refine mc (Pop_T (by omega) f) ?_;simp only[zD,zz];have a:(x::c).Perm l:=(List.perm_append_comm (l₁:=[x]) (l₂:=c)).trans e;refine rt ⟨_,rfl,x,c,rfl,a,λy o=>?_,?_,rfl⟩
 .obtain⟨k,hk,rfl⟩:=List.getElem_of_mem (a.mem_iff.1 (List.mem_cons_of_mem _ o));rw[hx,←Yl hk];exact hp_min g k hk
 .have:=hp_take h2 (by omega)
  simp_all
end
end Go.Proofs.Dev
