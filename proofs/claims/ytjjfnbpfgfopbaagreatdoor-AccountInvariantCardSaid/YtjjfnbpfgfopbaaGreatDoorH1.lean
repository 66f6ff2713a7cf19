/-
  Contracts by hand: the conditions stand in each.
-/
import Derived.Test.YtjjfnbpfgfopbaaGreatDoorED
import Derived.Test.YtjjfnbpfgfopbaaGreatDoorC3
import Derived.Test.YtjjfnbpfgfopbaaGreatDoorPD
import Derived.Test.YtjjfnbpfgfopbaaGreatDoorPA
import Derived.Test.YtjjfnbpfgfopbaaGreatDoorC0
import Derived.Test.YtjjfnbpfgfopbaaGreatDoorC1
import Derived.Test.YtjjfnbpfgfopbaaGreatDoorC2
open Eq renaming trans->paa
open List renaming getD_cons_succ->nab,getD_cons_zero->zab,getElem?_eq_getElem->qaa,map_set->Rac,replicate_succ->qab
open Nat renaming le_refl->Haa
open Option renaming map_eq_some_iff->saa
set_option linter.all false
set_option maxHeartbeats 1000000
namespace Go.Tm
section
variable {P:Program} {G:Gh} {w:World} {a:Act} {s:St} {d:D} {m':List Ent}
def KP(P:Program):Nat->List RI->(St->Prop)->St->Prop
 |0,.op dst none (.slice S x lo hi none)::l,K,s=>Ko (ea s (.trunc S x lo hi)) (KO (Zg P l K) s dst)
 |n+1,.op dst none i::l,K,s=>Ko (ea s i) (KO (KP P n l K) s dst)
 |_,_,_,_=>False
theorem EJ{op:Op}{S:Nat}{x:Operand}{lo hi:Option Operand}(h:MB P op=some (.slice S x lo hi none)) :
 ∃t e i,op=.slice t x lo hi none/\P.underlying t=some (.slice e)/\P.info? e=some i/\S=i.size:=by
 unfold MB at h;split at h
 all_goals (try (simp at h;done))
 all_goals (try ((repeat' split at h)<;>(try (simp at h;done))))
 all_goals (try (simp only[saa,reduceCtorEq,and_false,exists_false]at h;done))
 all_goals (try (simp only[saa,I.slice.injEq]at h;grind))
theorem op_in{ops:Array Oper}{o:Oper}{dst:Option Tmp}{i:I}(h:Cn P ops o=some (.op dst none i)):o.dst=dst/\guardOf ops o.guard=some none/\Mp P ops o o.op=some i:=by
 unfold Cn at h;split at h
 .cases h
 .rename_i g hg;split at h
  .cases h
  .simp only[saa]at h
   grind
theorem oF{ops:Array Oper}{Q:Exit->Act->World->Prop}{K:St->Prop}:∀{n:Nat}{l:List Oper}{rl:List RI}{s:St}{G:Gh}{w:World}{a:Act},mg P ops l=some rl->KP P n rl K s->Rel G w a s->
 (∀s' G' w' a',K s'->Rel G' w' a' s'->Step G w s.m G' w' s'.m->Q .normal a' w')->wpList P ops Q l a w
 |n,[],rl,s,G,w,a,hc,h,hr,hQ=>by
  simp only[mg]at hc;injection hc with hc;subst hc;cases n<;>exact h.elim
 |n,o::l,rl,s,G,w,a,hc,h,hr,hQ=>by
  simp only[mg]at hc;split at hc
  case h_2=>grind
  rename_i r rs D h2;injection hc with hc;subst hc
  cases r with
  |call dst g f args=>cases n<;>exact h.elim
  |op dst g i=>
   cases g with
   |some g=>cases n<;>exact h.elim
   |none=>
    obtain⟨rfl,A,hi⟩:=op_in D;obtain⟨b,-⟩:=Bm hr A;rw[wpList,if_pos (b rfl o rfl)];refine .inl ?_
    cases n with
    |zero=>
     cases i with
     |slice S x lo hi' mx=>
      cases mx with
      |some _=>exact h.elim
      |none=>
       obtain⟨d,m',he,p⟩:=(Rk _ _).1 h;have A:Good G w s.m ((execOp a.eval o).run P w) d m':=by
        unfold Mp at hi;split at hi
        .rename_i i' c;injection hi with hi;subst hi;unfold Mx at c;split at c
         .split at c
          .split at c
           all_goals simp_all
          simp_all
         simp_all
        .obtain⟨t,e,i,ho,ht,hin,rfl⟩:=EJ hi
         grind[CO]
       exact hr.Up A λG' w' u q v=>Uy h2 (ur p) q λy j z k B C k3=>hQ y j z k B C (v.trans (by grind[nC]))
     |_=>exact h.elim
    |succ n=>
     obtain⟨d,m',he,p⟩:=(Rk _ _).1 h;exact hr.Up (ax hi hr he) λG' w' u q v=>oF h2 p q λy j z k B C k3=>hQ y j z k B C (v.trans (by grind[nC]))
theorem T.regC{N:Nat}(n:Nat) {l:List RI}{K:Exit->St->Prop}{s:St}(h:KP P n l (K .normal) s):T P N (.UI l) K s:=by
 intro code hc G w a hN hr;obtain⟨id,ops,rfl,b⟩:=FJ hc;exact wp_region_list (oF b h hr λs' G' w' a' c h2 d=>⟨s',G',c,h2,d.lX hN⟩)
theorem i7{dst:Option Tmp}{S:Nat}{x:Operand}{lo hi:Option Operand}{l:List RI}{K:St->Prop}:KP P 0 (.op dst none (.slice S x lo hi none)::l) K s=Ko (ea s (.trunc S x lo hi)) (KO (Zg P l K) s dst):=paa rfl rfl
theorem l7{n:Nat}{dst:Option Tmp}{i:I}{l:List RI}{K:St->Prop}:KP P (n+1) (.op dst none i::l) K s=Ko (ea s i) (KO (KP P n l K) s dst):=by cases i<;>rfl
def Zs(P:Program):List RI->(St->Prop)->St->Prop
 |[],K,s=>K s
 |.op dst g i::l,K,s=>
  match gate s g with
  |none=>False
  |some none=>Ko (ea s i) (KO (Zs P l K) s dst)
  |some (some (c,b))=>if c=b then Ko (ea s i) (KO (Zs P l K) s dst)else Zs P l K (s.put dst (.v undef))
 |.call dst g f args::l,K,s=>
  match gate s g with
  |none=>False
  |some none=>(match s.ec f with|.fn k first caps=>Je P k (first++args.map s.ev++caps) s.m (KO (Zs P l K) s dst)|_=>False)
  |some (some (c,b))=>if c=b then(match s.ec f with|.fn k first caps=>Je P k (first++args.map s.ev++caps) s.m (KO (Zs P l K) s dst)|_=>False)else Zs P l K (s.put dst (.v undef))
theorem Xw:∀{l:List RI}{K:St->Prop}{s:St},Zs P l K s->Wi P l K s
 |[],K,s,h=>h
 |.op dst g i::l,K,s,h=>by
  simp only[Zs]at h;simp only[Wi];split at h
  .simp_all
  .rename_i a;obtain⟨d,m',j,h2⟩:=(Rk _ _).1 h;rw[a];exact⟨d,m',j,Xw h2⟩
  .rename_i c b a;rw[a];refine⟨λhc=>?_,λhc=>?_⟩
   .rw[if_pos hc]at h;obtain⟨d,m',j,h2⟩:=(Rk _ _).1 h;exact⟨d,m',j,Xw h2⟩
   .rw[if_neg hc]at h;exact Xw h
 |.call dst g f args::l,K,s,h=>by
  simp only[Zs]at h;simp only[Wi];split at h
  .simp_all
  .rename_i a;split at h
   .rename_i k first caps hf
    rw[hf];dsimp only;rw[a];exact h.mono λd m' e=>Xw e
   simp_all
  .rename_i c b a;by_cases hc:c=b
   .rw[if_pos hc]at h;split at h
    .rename_i k first caps hf
     rw[hf];dsimp only;rw[a];exact⟨λ_=>h.mono λd m' e=>Xw e,λhn=>(hn hc).elim⟩
    simp_all
   .rw[if_neg hc]at h;cases s.ec f<;>dsimp only<;>rw[a]<;>first|exact⟨hc,Xw h⟩|exact⟨λhn=>(hc hn).elim,λ_=>Xw h⟩
def gE(d:D) (b:Bool) (A B:Prop):Prop:=
 match d with
 |.v (.bool c)=>if c=b then A else B
 |.v _=>if(!b)=b then A else B
 |_=>False
@[congr] theorem gE_congr{d d':D} {b:Bool} {A B:Prop} (h:d=d'):gE d b A B=gE d' b A B:=by rw[h]
theorem gE_t{A B:Prop}:gE (.v (.bool true)) true A B=A:=by simp[gE]
theorem gE_f{A B:Prop}:gE (.v (.bool false)) false A B=A:=by simp[gE]
theorem gE_tf{A B:Prop}:gE (.v (.bool true)) false A B=B:=by simp[gE]
theorem gE_ft{A B:Prop}:gE (.v (.bool false)) true A B=B:=by simp[gE]
def BJ(P:Program) (d:D) (ds:List D) (m:List Ent) (f:D->List Ent->Prop):Prop:=match d with|.fn k first caps=>Je P k (first++ds++caps) m f|_=>False
@[congr] theorem I5{d d':D} {ds ds':List D} {m m':List Ent} {f:D->List Ent->Prop} (h:d=d') (h2:ds=ds') (h3:m=m'):BJ P d ds m f=BJ P d' ds' m' f:=by simp_all
theorem pY{k:Nat}{a c ds:List D}{m:List Ent}{f:D->List Ent->Prop}:BJ P (.fn k a c) ds m f=Je P k (a++ds++c) m f:=paa rfl rfl
section
variable {dst:Option Tmp} {i:I} {l:List RI} {K:St->Prop} {g:Nat×Bool} {f:Cal} {args:List Operand}
theorem GS:Zs P [] K s=K s:=paa rfl rfl
theorem TX:Zs P (.op dst none i::l) K s=Ko (ea s i) (KO (Zs P l K) s dst):=paa rfl rfl
theorem DO{A B:Prop}:(match gate s (some g)with|none=>False|some none=>A|some (some (c,b))=>if c=b then A else B)=gE (s.t.getD g.1 .dead) g.2 A B:=by
 obtain⟨t,b⟩:=g;simp only[gate,gE]
 grind
theorem HS:Zs P (.op dst (some g) i::l) K s=gE (s.t.getD g.1 .dead) g.2 (Ko (ea s i) (KO (Zs P l K) s dst)) (Zs P l K (s.put dst (.v undef))):=by
 rw[←DO,Zs]
theorem SX:Zs P (.call dst none f args::l) K s=BJ P (s.ec f) (args.map s.ev) s.m (KO (Zs P l K) s dst):=paa rfl rfl
theorem ES:Zs P (.call dst (some g) f args::l) K s=gE (s.t.getD g.1 .dead) g.2 (BJ P (s.ec f) (args.map s.ev) s.m (KO (Zs P l K) s dst)) (Zs P l K (s.put dst (.v undef))):=paa rfl DO
def zD:=(And.intro (And.intro (And.intro @GS @TX) (And.intro @HS @SX)) (And.intro (And.intro @ES @pY) (And.intro (And.intro @gE_t @gE_f) (And.intro @gE_tf @gE_ft))))
end
theorem T.jy{N:Nat}{l:List RI}{K:Exit->St->Prop}{s:St}(h:Zs P l (K .normal) s):T P N (.UI l) K s:=T.UI (Xw h)
end
end Go.Tm
set_option maxRecDepth 10000
namespace Go.Proofs.Dev
open Go Go.Tm
theorem wend{N:Nat}{K:Exit->St->Prop}{e:Exit}{t t':List D}{m g:List Ent}(c:pa t t') (hN:N<=m.length) (ht:belows m.length t'=true) (hm:m.all (Ent.below m.length)=true) (h:K e ⟨t',m⟩):lJ N K e ⟨t,m++g⟩:=
 λG w a b hr=>by
  obtain⟨G',k1,k2⟩:=wJ (At.mk t t' m g c) ⟨hN,ht,hm⟩ G w a b hr
  grind
theorem AD{l:List Int}{i j:Nat}{v:Nat}{u:Nat}{R:List Ent}(hi:i<l.length) (hj:j<l.length) :
 CallT Tryz.prog 316 [.own 1 v,aa i,aa j] (.live 1 u [.own 1 v]::.live 1 v (l.map aa)::R) λd m'=>d=.v (.bool (decide (l[i]<l[j])))/\m'=.live 1 u [.own 1 v]::.live 1 v (l.map aa)::R:=by
 refine Aj jaa.ok jaa.nm ?_;simp only[jaa,Kf.of,zs,ze,qab];have g1:l[i]?=some l[i]:=qaa hi;have g2:l[j]?=some l[j]:=qaa hj;refine ss (rg ?_);simp only[zz];refine ss (dy Yt ?_);simp only[zz,zy,g1,g2,hi,hj];exact rt ⟨_,rfl,rfl,rfl⟩
theorem Z6{l:List Int}{x:Int}{v:Nat}{u:Nat}{R:List Ent}(hl:(l.length+1)*8<=2 ^ 47) (a:R.all (Ent.below (R.length+2))=true) :
 CallT Tryz.prog 318 [.ref 0 u 0 0,.ifc 3 (aa x)] (.live 1 u [.own 1 v]::.live 1 v (l.map aa)::R) λd m'=>d=.tup []/\m'=.live 1 u [.own 1 (v+1)]::.live 1 (v+1) ((l++[x]).map aa)::R:=by
 refine Aj laa.ok laa.nm ?_;simp only[laa,Kf.of,zs,ze,qab];refine T.tT ?_;refine ss (rg ?_);simp only[zz];refine ss (rg ?_);simp only[zz];refine cd rfl ?_;simp only[zz];refine rg ?_;simp only[zz,List.getElem?_concat_length,hl];refine wend (t':=ds 20 []) (m:=.live 1 u [.own 1 (v+1)]::.live 1 (v+1) ((l.map aa)++[aa x])::R) (by repeat (first|exact pa.qb _|refine pa.cons (Sub.Ka _) ?_)) (by simp) rfl ?_ ⟨_,rfl,rfl,?_⟩
 .simp only[List.all_cons,Bool.and_eq_true,List.length_cons];refine⟨?_,Ib _ _ ?_,a⟩
  .simp_all[Ent.below,belows,Tm.below]
  .exact LU (Fr.l _) rfl
 simp
theorem CD{l:List Int}{i j:Nat}{v:Nat}{u:Nat}{R:List Ent}(hi:i<l.length) (hj:j<l.length) :
 CallT Tryz.prog 319 [.own 1 v,aa i,aa j] (.live 1 u [.own 1 v]::.live 1 v (l.map aa)::R) λd m'=>d=.tup []/\m'=.live 1 u [.own 1 v]::.live 1 v (((l.set i l[j]).set j l[i]).map aa)::R:=by
 refine Aj maa.ok maa.nm ?_;simp only[maa,Kf.of,zs,ze,qab];have g1:l[i]?=some l[i]:=qaa hi;have g2:l[j]?=some l[j]:=qaa hj;simp only[zz];refine ay Yt [[],[],[],[],[],[],[],[],[],[],[],[],[],[]] (by kernel_rfl) ?_;have g3:((l.map aa).set i (D.v (Value.int IntKind.i64 l[j])))[j]?=some (.v (.int .i64 ((l.set i l[j])[j]'(by simp_all)))):=by
  rw[show(D.v (Value.int IntKind.i64 l[j]))=aa l[j]from rfl,←Rac,List.getElem?_map,qaa (by simp_all)];rfl
 have g4:j<((l.map aa).set i (D.v (Value.int IntKind.i64 l[j]))).length:=by simp_all
 simp only[zz,zy,g1,g2,g3,g4,hi,hj];refine⟨_,rfl,rfl,?_⟩;rw[Rac,Rac];rfl
theorem CS{l:List Int}{v:Nat}{u:Nat}{R:List Ent} :
 CallT Tryz.prog 222 [.own 1 v] (.live 1 u [.own 1 v]::.live 1 v (l.map aa)::R) λd m'=>d=aa l.length/\m'=.live 1 u [.own 1 v]::.live 1 v (l.map aa)::R:=by
 refine Aj caa.ok caa.nm ?_;simp only[caa,Kf.of,zs,ze,qab];refine ss (rg ?_);simp only[zz];refine ss (rg ?_);simp only[zz];exact rt ⟨_,rfl,rfl,rfl⟩
theorem Pop_T{l:List Int}{x:Int}{v:Nat}{u:Nat}{R:List Ent}(hl:l.length<1000000000) (hR:R.all (Ent.below (R.length+2))=true) :
 CallT Tryz.prog 317 [.ref 0 u 0 0] (.live 1 u [.own 1 v]::.live 1 v ((l++[x]).map aa)::R) λd m'=>d=.ifc 3 (aa x)/\m'=.live 1 u [.own 1 (v+1)]::.live 1 (v+1) (l.map aa)::R:=by
 refine Aj kaa.ok kaa.nm ?_;simp only[kaa,Kf.of,zs,ze,qab];refine ss (rg ?_);simp only[zz];refine ss (rg ?_);simp only[zz];have a:ca .i64 (((l.length+1:Nat):Int)-1)=(l.length:Int):=by grind[Xs]
 have h2:(l++[x])[l.length]?=some x:=by simp
 have b:l.length<l.length+1:=by omega
 refine ss (rg ?_);simp only[zz,a,h2,b];refine ss (T.regC 5 ?_);simp only[l7,i7,zz,a,h2,b];refine⟨by omega,?_⟩;refine ss (rg ?_);simp only[zz];refine rt ⟨_,rfl,rfl,?_⟩;simp
section
variable {l:List Int} {v u:Nat} {R:List Ent}
def cw(l:List Int) (v u:Nat) (R:List Ent):List Ent:=.live 1 u [.own 1 v]::.live 1 v (l.map aa)::R
theorem Zt{k:Nat}{y:TypeId×FuncId×Option (Bool×Nat)}:jC (.live 1 u [.own 1 v]::R) [(317,k,some (false,1)),y] (.ifc 317 (.ref 0 u 0 0))=.fn k [.own 1 v] []:=by
 simp_all[jC,ea,St.ev,D.ok,Tm.part,PA]
theorem oV{k:Nat}{x y:TypeId×FuncId×Option (Bool×Nat)}(hx:(317==x.1)=false):jC (.live 1 u [.own 1 v]::R) [x,(317,k,some (false,1)),y] (.ifc 317 (.ref 0 u 0 0))=.fn k [.own 1 v] []:=by
 simp[jC,List.lookup,ea,St.ev,D.ok,PA,hx,Tm.part]
theorem pV{m:List Ent}{k:Nat}:jC m [(317,k,none)] (.ifc 317 (.ref 0 u 0 0))=.fn k [.ref 0 u 0 0] []:=rfl
theorem nj{s:St}{r:Operand}{tb:List (TypeId×FuncId×Option (Bool×Nat))}:s.ec (.meth r tb)=jC s.m tb (s.ev r):=rfl
theorem tO{s:St}{k:Nat}:s.ec (.func k)=.fn k [] []:=rfl
theorem wx{N:Nat}{l:List Int}{t:List D}(hR:R.all (Ent.below (R.length+2))=true) (hN:N<=R.length+2) (ht:belows (R.length+2) t=true):Fit N ⟨t,cw l v u R⟩:=by
 refine⟨hN,ht,?_⟩
 simp_all[cw,Ent.below,belows,Tm.below,Ib,Fr.l]
theorem xA{l:List Int}{i j:Nat}(hi:i<l.length) (hj:j<l.length):(l.set i l[j]).set j l[i]=swp l i j:=by grind[swp,qj]
theorem up_T{l:List Int}{j:Nat}{v:Nat}{u:Nat}{R:List Ent}(p:R.all (Ent.below (R.length+2))=true) (hj:j<l.length) (hl:l.length<1000000000) (hu:HpU l j) :
 CallT Tryz.prog 233 [.ifc 317 (.ref 0 u 0 0),aa j] (cw l v u R) λd m'=>d=.tup []/\∃l',l'.Perm l/\Hp l' l'.length/\m'=cw l' v u R:=by
 refine Aj gaa.ok gaa.nm ?_;simp only[gaa,Kf.of,zs,ze,qab];refine T.tT ?_;refine T.zJ (X:=List Int×Nat) (λy=>⟨.ifc 317 (.ref 0 u 0 0)::aa y.2::ds 21 [],cw y.1 v u R⟩) (λy=>y.2<y.1.length/\y.1.Perm l/\HpU y.1 y.2) (λy=>y.1.Perm l/\Hp y.1 y.1.length) (λy=>y.2) (l,j) ⟨hj,.refl _,hu⟩ (At.same _ _ _ (pa.qb _)) ?_ ?_ (λ_=>stab_C) ?_
 .rintro⟨a,i⟩ -;exact wx p (Haa _) (by simp_all[belows,Tm.below,mj,uk,kc,Fr.h])
 .rintro⟨a,i⟩ ⟨c,h2,f⟩;dsimp only at c h2 f;have h5:=h2.length_eq;unfold cw;have hw:ca .i64 ((ca .i64 ((i:Int)-1)).tdiv 2)=(((i-1) / 2:Nat):Int):=by
   rw[Xs (n:=(i:Int)-1) ⟨by omega,by omega⟩]
   cases i with
   |zero=>rfl
   |succ n=>
    rw[show((n+1:Nat):Int)-1=(n:Int) by omega,show Int.tdiv (n:Int) 2=((n / 2:Nat):Int)from rfl,Xs ⟨by omega,by omega⟩];simp
  refine bk (ss (rg ?_));simp only[zz,hw];refine ss (ss (T.jy ?_));by_cases o:i=0
  .subst o;have e:((((0-1) / 2:Nat):Int)==0)=true:=rfl;simp only[zD,zz,zab,nab,e];refine cd rfl ?_;simp only[zz];refine xt ?_;simp only[zz,Io];exact⟨(a,0),⟨h2,uX f (.inl rfl)⟩,At.same _ _ _ (by repeat (first|exact pa.qb _|refine pa.cons (Sub.refl _) ?_|refine pa.cons (Sub.Ka _) ?_))⟩
  .have g:¬(((i-1) / 2:Nat):Int)=(i:Int):=by omega
   have e:((((i-1) / 2:Nat):Int)==(i:Int))=false:=by simp_all
   have m:(i-1) / 2<a.length:=by omega
   simp only[zD,zz,zab,nab,e,g,nj,Zt];refine bc (AD c m) ?_;by_cases k:zp a i<zp a ((i-1) / 2)
   .have b:decide (a[i]<a[(i-1) / 2])=true:=by grind[qj]
    simp only[zD,zz,zab,nab,e,g,b,ep];refine cd rfl ?_;simp only[zz];refine sk ?_;simp only[zz];refine ss (T.jy ?_);simp only[zD,zz,nj,Zt];refine bc (CD m c) ?_;simp only[zD,zz];refine rg ?_;simp only[zz,Qm];refine⟨(swp a ((i-1) / 2) i,(i-1) / 2),⟨by grind[wA],(cx m c).trans h2,up_go f (by omega) c k⟩,by omega,?_⟩;rw[xA];exact At.same _ _ _ (by repeat (first|exact pa.qb _|refine pa.cons (Sub.refl _) ?_|refine pa.cons (Sub.Ka _) ?_))
   .have b:decide (a[i]<a[(i-1) / 2])=false:=by grind[qj]
    simp only[zD,zz,zab,nab,e,g,b,ep];refine cd rfl ?_;simp only[zz];refine xt ?_;simp only[zz,Io];exact⟨(a,i),⟨h2,uX f (.inr (by simp_all))⟩,At.same _ _ _ (by repeat (first|exact pa.qb _|refine pa.cons (Sub.refl _) ?_|refine pa.cons (Sub.Ka _) ?_))⟩
 .rintro⟨a,i⟩ ⟨c,h2⟩;exact lJ.of ⟨_,rfl,rfl,a,c,h2,rfl⟩
theorem p8{l:List Int}{n:Nat}{v:Nat}{u:Nat}{R:List Ent}(B:R.all (Ent.below (R.length+2))=true) (hn:n<l.length) (hl:l.length<1000000000) (hd:R6 l n 0) :
 CallT Tryz.prog 234 [.ifc 317 (.ref 0 u 0 0),.v (.int .i64 0),aa n] (cw l v u R) λd m'=>(∃b,d=.v (.bool b))/\∃l',l'.Perm l/\Hp l' n/\zp l' n=zp l n/\m'=cw l' v u R:=by
 refine Aj haa.ok haa.nm ?_;simp only[haa,Kf.of,zs,ze,qab];refine T.tT ?_;refine ss (rg ?_);simp only[zz];refine ss (rg ?_);simp only[zz];refine ss ?_;refine T.zJ (X:=List Int×Nat) (λy=>⟨.ifc 317 (.ref 0 u 0 0)::.v (.int .i64 0)::aa n::.dead::.dead::.dead::.v (.bool false)::aa y.2::ds 40 [],cw y.1 v u R⟩) (λy=>y.2<=n/\y.1.Perm l/\R6 y.1 n y.2/\zp y.1 n=zp l n) (λy=>y.1.Perm l/\Hp y.1 n/\zp y.1 n=zp l n) (λy=>n-y.2) (l,0) ⟨Nat.zero_le _,.refl _,hd,rfl⟩ (At.same _ _ _ (by repeat (first|exact pa.qb _|refine pa.cons (Sub.refl _) ?_|refine pa.cons (Sub.Ka _) ?_))) ?_ ?_ (λ_=>Us) ?_
 .rintro⟨a,i⟩ -;exact wx B (Haa _) (by simp_all[belows,Tm.below,mj,uk,kc,Fr.h])
 .rintro⟨a,i⟩ ⟨s,h2,g,p⟩;dsimp only at s h2 g p;have h5:=h2.length_eq;unfold cw;have C:ca .i64 (2*(i:Int))=((2*i:Nat):Int):=by grind[Xs]
  have D:ca .i64 (((2*i:Nat):Int)+1)=((2*i+1:Nat):Int):=by grind[Xs]
  have E:ca .i64 (((2*i+1:Nat):Int)+1)=((2*i+2:Nat):Int):=by grind[Xs]
  refine bk (ss (rg ?_));simp only[zz,C,D];refine ss (ss (T.jy ?_));by_cases z:n<=2*i+1
  .have t:decide (((n:Nat):Int)<=((2*i+1:Nat):Int))=true:=decide_eq_true (by omega);simp only[zD,zz,zab,nab,t];refine cd rfl ?_;simp only[zz];refine xt ?_;simp only[zz,Io];exact⟨(a,i),⟨h2,uQ g z,p⟩,At.same _ _ _ (by repeat (first|exact pa.qb _|refine pa.cons (Sub.refl _) ?_|refine pa.cons (Sub.Ka _) ?_))⟩
  .have t:decide (((n:Nat):Int)<=((2*i+1:Nat):Int))=false:=decide_eq_false (by omega);have w:decide (((2*i+1:Nat):Int)<0)=false:=decide_eq_false (by omega);have f:i<a.length:=by omega
   simp only[zD,zz,zab,nab,t,w];refine cd rfl ?_;simp only[zz];refine sk ?_;simp only[zz];refine ss (rg ?_);simp only[zz];refine ss (ss (rg ?_));simp only[zz,E];refine ss (T.jy ?_);by_cases x:2*i+2<n
   .have m:decide (((2*i+2:Nat):Int)<(n:Int))=true:=decide_eq_true (by omega);have q:2*i+1<a.length:=by omega
    have r:2*i+2<a.length:=by omega
    simp only[zD,zz,zab,nab,m,nj,Zt];refine bc (AD (i:=2*i+2) (j:=2*i+1) r q) ?_;by_cases A:zp a (2*i+2)<zp a (2*i+1)
    .have o:decide (a[2*i+2]<a[2*i+1])=true:=by grind[qj]
     have hc:=cm_2 x A;have e:=r;simp only[zD,zz,zab,nab,o];refine cd rfl ?_;simp only[zz];refine rg ?_;simp only[zz];refine ss (ss (T.jy ?_));simp only[zD,zz,nj,Zt];refine bc (AD (i:=(2*i+2)) (j:=i) e f) ?_;by_cases k:zp a (2*i+2)<zp a i
     .have c:decide (a[(2*i+2)]<a[i])=true:=by grind[qj]
      simp only[zD,zz,c,ep];refine cd rfl ?_;simp only[zz];refine sk ?_;simp only[zz];refine ss (T.jy ?_);simp only[zD,zz,nj,Zt];refine bc (CD (i:=i) (j:=(2*i+2)) f e) ?_;simp only[zD,zz];refine rg ?_;simp only[zz,Qm];refine⟨(swp a i (2*i+2),(2*i+2)),⟨by omega,(cx f e).trans h2,jI g (by omega) hc k,?_⟩,by omega,?_⟩
      .dsimp only;rw[Pl f e,if_neg (by omega),if_neg (by omega)];omega
      rw[xA];exact At.same _ _ _ (by repeat (first|exact pa.qb _|refine pa.cons (Sub.refl _) ?_|refine pa.cons (Sub.Ka _) ?_))
     .have c:decide (a[(2*i+2)]<a[i])=false:=by grind[qj]
      simp only[zD,zz,c,ep];refine cd rfl ?_;simp only[zz];refine xt ?_;simp only[zz,Io];exact⟨(a,i),⟨h2,aE g hc (by simp_all),p⟩,At.same _ _ _ (by repeat (first|exact pa.qb _|refine pa.cons (Sub.refl _) ?_|refine pa.cons (Sub.Ka _) ?_))⟩
    .have o:decide (a[2*i+2]<a[2*i+1])=false:=by grind[qj]
     have hc:Cm a n i (2*i+1):=cm_1 (by omega) λ_=>by omega
     have e:=q;simp only[zD,zz,zab,nab,o];refine cd rfl ?_;simp only[zz];refine sk ?_;simp only[zz];refine ss (ss (T.jy ?_));simp only[zD,zz,nj,Zt];refine bc (AD (i:=(2*i+1)) (j:=i) e f) ?_;by_cases k:zp a (2*i+1)<zp a i
     .have c:decide (a[(2*i+1)]<a[i])=true:=by grind[qj]
      simp only[zD,zz,c,ep];refine cd rfl ?_;simp only[zz];refine sk ?_;simp only[zz];refine ss (T.jy ?_);simp only[zD,zz,nj,Zt];refine bc (CD (i:=i) (j:=(2*i+1)) f e) ?_;simp only[zD,zz];refine rg ?_;simp only[zz,Qm];refine⟨(swp a i (2*i+1),(2*i+1)),⟨by omega,(cx f e).trans h2,jI g (by omega) hc k,?_⟩,by omega,?_⟩
      .dsimp only;rw[Pl f e,if_neg (by omega),if_neg (by omega)];omega
      rw[xA];exact At.same _ _ _ (by repeat (first|exact pa.qb _|refine pa.cons (Sub.refl _) ?_|refine pa.cons (Sub.Ka _) ?_))
     .have c:decide (a[(2*i+1)]<a[i])=false:=by grind[qj]
      simp only[zD,zz,c,ep];refine cd rfl ?_;simp only[zz];refine xt ?_;simp only[zz,Io];exact⟨(a,i),⟨h2,aE g hc (by simp_all),p⟩,At.same _ _ _ (by repeat (first|exact pa.qb _|refine pa.cons (Sub.refl _) ?_|refine pa.cons (Sub.Ka _) ?_))⟩
   .have m:decide (((2*i+2:Nat):Int)<(n:Int))=false:=decide_eq_false (by omega);have e:2*i+1<a.length:=by omega
    have hc:Cm a n i (2*i+1):=cm_1 (by omega) λh=>(x h).elim;simp only[zD,zz,zab,nab,m];refine cd rfl ?_;simp only[zz];refine sk ?_;simp only[zz];refine ss (ss (T.jy ?_));simp only[zD,zz,nj,Zt];refine bc (AD (i:=(2*i+1)) (j:=i) e f) ?_;by_cases k:zp a (2*i+1)<zp a i
    .have c:decide (a[(2*i+1)]<a[i])=true:=by grind[qj]
     simp only[zD,zz,c,ep];refine cd rfl ?_;simp only[zz];refine sk ?_;simp only[zz];refine ss (T.jy ?_);simp only[zD,zz,nj,Zt];refine bc (CD (i:=i) (j:=(2*i+1)) f e) ?_;simp only[zD,zz];refine rg ?_;simp only[zz,Qm];refine⟨(swp a i (2*i+1),(2*i+1)),⟨by omega,(cx f e).trans h2,jI g (by omega) hc k,?_⟩,by omega,?_⟩
     .dsimp only;rw[Pl f e,if_neg (by omega),if_neg (by omega)];omega
     rw[xA];exact At.same _ _ _ (by repeat (first|exact pa.qb _|refine pa.cons (Sub.refl _) ?_|refine pa.cons (Sub.Ka _) ?_))
    .have c:decide (a[(2*i+1)]<a[i])=false:=by grind[qj]
     simp only[zD,zz,c,ep];refine cd rfl ?_;simp only[zz];refine xt ?_;simp only[zz,Io];exact⟨(a,i),⟨h2,aE g hc (by simp_all),p⟩,At.same _ _ _ (by repeat (first|exact pa.qb _|refine pa.cons (Sub.refl _) ?_|refine pa.cons (Sub.Ka _) ?_))⟩
 .rintro⟨a,i⟩ ⟨s,h2,g⟩;unfold cw;dsimp only at s h2 g;simp only[zz];refine ss (rg ?_);simp only[zz];exact rt (lJ.of ⟨_,rfl,⟨_,rfl⟩,a,s,h2,g,rfl⟩)
theorem GO{l:List Int}{x:Int}{v:Nat}{u:Nat}{R:List Ent}(b:R.all (Ent.below (R.length+2))=true) (hl:l.length<100000000) (e:Hp l l.length) :
 CallT Tryz.prog 221 [.ifc 317 (.ref 0 u 0 0),.ifc 3 (aa x)] (cw l v u R) λd m'=>d=.tup []/\∃l',l'.Perm (l++[x])/\Hp l' l'.length/\m'=cw l' (v+1) u R:=by
 refine Aj baa.ok baa.nm ?_;simp only[baa,Kf.of,zs,ze,qab];unfold cw;refine ss (T.jy ?_);simp only[zD,zz,nj,pV];refine bc (Z6 (by omega) b) ?_;simp only[zD,zz];refine T.jy ?_;simp only[zD,zz,nj];rw[oV rfl];simp only[zD,zz,nj];refine bc CS ?_;have f:ca .i64 (((l.length+1:Nat):Int)-1)=((l.length:Nat):Int):=by grind[Xs]
 have a:(l++[x]).length=l.length+1:=by simp
 simp only[zD,zz,a,f,tO];refine nu (up_T (j:=l.length) b (by omega) (by omega) (push_U e)) ?_;rintro d m' ⟨rfl,l',c,h2,rfl⟩;simp only[zD,zz];exact⟨_,rfl,rfl,l',c,h2,rfl⟩
theorem D9{l:List Int}{n v:Nat}{u:Nat}{R:List Ent}(f:R.all (Ent.below (R.length+2))=true) (hl:l.length<100000000) (hn:l.length=n+1) (g:Hp l l.length) :
 CallT Tryz.prog 223 [.ifc 317 (.ref 0 u 0 0)] (cw l v u R) λd m'=>∃x l',d=.ifc 3 (aa x)/\(x::l').Perm l/\(∀y∈l',x<=y)/\Hp l' l'.length/\m'=cw l' (v+1) u R:=by
 refine Aj daa.ok daa.nm ?_;simp only[daa,Kf.of,zs,ze,qab];unfold cw;refine ss (rg ?_);simp only[zz];refine ss (T.jy ?_);simp only[zD,zz,nj];rw[oV rfl];simp only[zD,zz,nj];refine bc CS ?_;have p:ca .i64 (((n+1:Nat):Int)-1)=((n:Nat):Int):=by grind[Xs]
 simp only[zD,zz,hn,p];refine ss (T.jy ?_);simp only[zD,zz,nj,Zt];refine bc (CD (i:=0) (j:=n) (by omega) (by omega)) ?_;simp only[zD,zz];rw[xA];refine ss (T.jy ?_);simp only[zD,zz,tO];refine nu (p8 (n:=n) f (by grind[wA]) (by grind[wA]) (pop_D g hn)) ?_;rintro d m' ⟨⟨b,rfl⟩,l',h,h2,m,rfl⟩;have e:l'.Perm l:=h.trans (cx (by omega) (by omega));have hln:l'.length=n+1:=by rw[e.length_eq,hn]
 obtain⟨c,x,rfl⟩:∃c x,l'=c++[x]:=⟨l'.dropLast,l'.getLast (by grind),(List.dropLast_concat_getLast _).symm⟩;have hl3:c.length=n:=by simp_all
 have hx:x=zp l 0:=by
  rw[Pl (by omega) (by omega),if_pos rfl]at m
  grind[qj]
 unfold cw;simp only[zD,zz];refine ss (T.jy ?_);simp only[zD,zz,nj,pV];refine bc (Pop_T (by omega) f) ?_;simp only[zD,zz];have a:(x::c).Perm l:=(List.perm_append_comm (l₁:=[x]) (l₂:=c)).trans e;refine rt ⟨_,rfl,x,c,rfl,a,λy o=>?_,?_,rfl⟩
 .obtain⟨k,hk,rfl⟩:=List.getElem_of_mem (a.mem_iff.1 (List.mem_cons_of_mem _ o));rw[hx,←qj hk];exact C9 g k hk
 .have:=oZ h2 (by omega)
  simp_all
end
end Go.Proofs.Dev
