/-
  Contracts by hand: the conditions stand in each.
-/
import Derived.Test.YtjiaejcpmcknnaaGreatDoorEC
import Derived.Test.YtjiaejcpmcknnaaGreatDoorC3
import Derived.Test.YtjiaejcpmcknnaaGreatDoorPD
import Derived.Test.YtjiaejcpmcknnaaGreatDoorPA
import Derived.Test.YtjiaejcpmcknnaaGreatDoorC0
import Derived.Test.YtjiaejcpmcknnaaGreatDoorC1
import Derived.Test.YtjiaejcpmcknnaaGreatDoorC2
open Bool renaming and_eq_true->Sac,and_true->Xac,true_and->Lad
open Eq renaming trans->Mac
open List renaming all_cons->sae,getD_cons_succ->Cad,getD_cons_zero->Pad,getElem?_eq_getElem->Lac,length_cons->rad,lookup->Pag,map_append->Qad,map_set->saf,take_left'->Sag
open Nat renaming le_refl->cad
open Option renaming map_eq_some_iff->Oac
set_option linter.all false
set_option maxHeartbeats 1000000
namespace Go.Tm
section
variable {P:Program} {G:Gh} {w:World} {a:Act} {s:St} {d:D} {m':List Ent}
def AP(P:Program):Nat->List RI->(St->Prop)->St->Prop
 |0,.op dst none (.slice S x lo hi none)::l,K,s=>lp (fa s (.trunc S x lo hi)) (KO (Zg P l K) s dst)
 |n+1,.op dst none i::l,K,s=>lp (fa s i) (KO (AP P n l K) s dst)
 |_,_,_,_=>False
theorem TK{op:Op}{S:Nat}{x:Operand}{lo hi:Option Operand}(h:WC P op=some (.slice S x lo hi none)) :
 ∃t e i,op=.slice t x lo hi none/\P.underlying t=some (.slice e)/\P.info? e=some i/\S=i.size:=by
 unfold WC at h;split at h
 all_goals (try (simp at h;done))
 all_goals (try ((repeat' split at h)<;>(try (simp at h;done))))
 all_goals (try (simp only[Oac,reduceCtorEq,and_false,exists_false]at h;done))
 all_goals (try (simp only[Oac,I.slice.injEq]at h;obtain⟨i,h1,rfl,rfl,rfl,rfl,rfl⟩:=h;exact⟨_,_,i,rfl,by assumption,h1,rfl⟩))
theorem op_in{ops:Array Oper}{o:Oper}{dst:Option Tmp}{i:I}(h:Pn P ops o=some (.op dst none i)):o.dst=dst/\guardOf ops o.guard=some none/\xq P ops o o.op=some i:=by
 unfold Pn at h;split at h
 .cases h
 .rename_i g hg;split at h
  .cases h
  .simp only[Oac]at h;obtain⟨i',h1,h2⟩:=h;injection h2 with e1 e2 e3;subst e1;subst e2;subst e3;exact⟨rfl,hg,h1⟩
theorem FG{ops:Array Oper}{Q:Exit->Act->World->Prop}{K:St->Prop}:∀{n:Nat}{l:List Oper}{rl:List RI}{s:St}{G:Gh}{w:World}{a:Act},jg P ops l=some rl->AP P n rl K s->Rel G w a s->
 (∀s' G' w' a',K s'->Rel G' w' a' s'->Step G w s.m G' w' s'.m->Q .normal a' w')->wpList P ops Q l a w
 |n,[],rl,s,G,w,a,hc,hK,hr,hQ=>by
  simp only[jg]at hc;injection hc with hc;subst hc;cases n<;>exact hK.elim
 |n,o::l,rl,s,G,w,a,hc,hK,hr,hQ=>by
  simp only[jg]at hc;split at hc
  case h_2=>cases hc
  rename_i r rs h1 h2;injection hc with hc;subst hc
  cases r with
  |call dst g f args=>cases n<;>exact hK.elim
  |op dst g i=>
   cases g with
   |some g=>cases n<;>exact hK.elim
   |none=>
    obtain⟨rfl,hg,hi⟩:=op_in h1;obtain⟨hgate1,-⟩:=Lm hr hg;rw[wpList,if_pos (hgate1 rfl o rfl)];refine .inl ?_
    cases n with
    |zero=>
     cases i with
     |slice S x lo hi' mx=>
      cases mx with
      |some _=>exact hK.elim
      |none=>
       obtain⟨d,m',he,hK'⟩:=(Cl _ _).1 hK;have hg:Good G w s.m ((execOp a.eval o).run P w) d m':=by
        unfold xq at hi;split at hi
        .rename_i i' hi2;injection hi with hi;subst hi;unfold Iy at hi2;split at hi2
         .split at hi2
          .split at hi2
           .simp at hi2
           .cases hi2
          .cases hi2
         .cases hi2
        .obtain⟨t,e,i,ho,ht,hin,rfl⟩:=TK hi;exact DO hr ho ht hin he
       exact hr.Dq hg λG' w' u hr' hs'=>Wz h2 (Cs hK') hr' λs'' G'' w'' a'' k1 k2 k3=>hQ s'' G'' w'' a'' k1 k2 (hs'.trans (by simpa only[vD] using k3))
     |_=>exact hK.elim
    |succ n=>
     obtain⟨d,m',he,hK'⟩:=(Cl _ _).1 hK;exact hr.Dq (jy hi hr he) λG' w' u hr' hs'=>FG h2 hK' hr' λs'' G'' w'' a'' k1 k2 k3=>hQ s'' G'' w'' a'' k1 k2 (hs'.trans (by simpa only[vD] using k3))
theorem T.regC{N:Nat}(n:Nat) {l:List RI}{K:Exit->St->Prop}{s:St}(h:AP P n l (K .normal) s):T P N (.TJ l) K s:=by
 intro code hc G w a hN hr;obtain⟨id,ops,rfl,hc'⟩:=UK hc;exact wp_region_list (FG hc' h hr λs' G' w' a' h1 h2 h3=>⟨s',G',h1,h2,h3.TV hN⟩)
theorem B3{dst:Option Tmp}{S:Nat}{x:Operand}{lo hi:Option Operand}{l:List RI}{K:St->Prop}:AP P 0 (.op dst none (.slice S x lo hi none)::l) K s=lp (fa s (.trunc S x lo hi)) (KO (Zg P l K) s dst):=Mac rfl rfl
theorem C3{n:Nat}{dst:Option Tmp}{i:I}{l:List RI}{K:St->Prop}:AP P (n+1) (.op dst none i::l) K s=lp (fa s i) (KO (AP P n l K) s dst):=by cases i<;>rfl
def qu(P:Program):List RI->(St->Prop)->St->Prop
 |[],K,s=>K s
 |.op dst g i::l,K,s=>
  match gate s g with
  |none=>False
  |some none=>lp (fa s i) (KO (qu P l K) s dst)
  |some (some (c,b))=>if c=b then lp (fa s i) (KO (qu P l K) s dst)else qu P l K (s.put dst (.v undef))
 |.call dst g f args::l,K,s=>
  match gate s g with
  |none=>False
  |some none=>(match s.ec f with|.fn k first caps=>af P k (first++args.map s.ev++caps) s.m (KO (qu P l K) s dst)|_=>False)
  |some (some (c,b))=>if c=b then(match s.ec f with|.fn k first caps=>af P k (first++args.map s.ev++caps) s.m (KO (qu P l K) s dst)|_=>False)else qu P l K (s.put dst (.v undef))
theorem Wx:∀{l:List RI}{K:St->Prop}{s:St},qu P l K s->Aj P l K s
 |[],K,s,h=>h
 |.op dst g i::l,K,s,h=>by
  simp only[qu]at h;simp only[Aj];split at h
  .exact h.elim
  .rename_i hg;obtain⟨d,m',h1,h2⟩:=(Cl _ _).1 h;rw[hg];exact⟨d,m',h1,Wx h2⟩
  .rename_i c b hg;rw[hg];refine⟨λhc=>?_,λhc=>?_⟩
   .rw[if_pos hc]at h;obtain⟨d,m',h1,h2⟩:=(Cl _ _).1 h;exact⟨d,m',h1,Wx h2⟩
   .rw[if_neg hc]at h;exact Wx h
 |.call dst g f args::l,K,s,h=>by
  simp only[qu]at h;simp only[Aj];split at h
  .exact h.elim
  .rename_i hg;split at h
   .rename_i k first caps hf
    rw[hf];dsimp only;rw[hg];exact h.mono λd m' h'=>Wx h'
   .exact h.elim
  .rename_i c b hg;by_cases hc:c=b
   .rw[if_pos hc]at h;split at h
    .rename_i k first caps hf
     rw[hf];dsimp only;rw[hg];exact⟨λ_=>h.mono λd m' h'=>Wx h',λhn=>(hn hc).elim⟩
    .exact h.elim
   .rw[if_neg hc]at h;cases s.ec f<;>dsimp only<;>rw[hg]<;>first|exact⟨hc,Wx h⟩|exact⟨λhn=>(hc hn).elim,λ_=>Wx h⟩
def gE(d:D) (b:Bool) (A B:Prop):Prop:=
 match d with
 |.v (.bool c)=>if c=b then A else B
 |.v _=>if(!b)=b then A else B
 |_=>False
@[congr] theorem kaa{d d':D} {b:Bool} {A B:Prop} (h:d=d'):gE d b A B=gE d' b A B:=by rw[h]
theorem gE_t{A B:Prop}:gE (.v (.bool true)) true A B=A:=by simp[gE]
theorem gE_f{A B:Prop}:gE (.v (.bool false)) false A B=A:=by simp[gE]
theorem maa{A B:Prop}:gE (.v (.bool true)) false A B=B:=by simp[gE]
theorem laa{A B:Prop}:gE (.v (.bool false)) true A B=B:=by simp[gE]
def KK(P:Program) (d:D) (ds:List D) (m:List Ent) (f:D->List Ent->Prop):Prop:=match d with|.fn k first caps=>af P k (first++ds++caps) m f|_=>False
@[congr] theorem L0{d d':D} {ds ds':List D} {m m':List Ent} {f:D->List Ent->Prop} (h:d=d') (h2:ds=ds') (h3:m=m'):KK P d ds m f=KK P d' ds' m' f:=by rw[h,h2,h3]
theorem LW{k:Nat}{a c ds:List D}{m:List Ent}{f:D->List Ent->Prop}:KK P (.fn k a c) ds m f=af P k (a++ds++c) m f:=Mac rfl rfl
section
variable {dst:Option Tmp} {i:I} {l:List RI} {K:St->Prop} {g:Nat×Bool} {f:Cal} {args:List Operand}
theorem MR:qu P [] K s=K s:=Mac rfl rfl
theorem BW:qu P (.op dst none i::l) K s=lp (fa s i) (KO (qu P l K) s dst):=Mac rfl rfl
theorem EO{A B:Prop}:(match gate s (some g)with|none=>False|some none=>A|some (some (c,b))=>if c=b then A else B)=gE (s.t.getD g.1 .dead) g.2 A B:=by
 obtain⟨t,b⟩:=g;simp only[gate,gE]
 cases s.t.getD t .dead with
 |v x=>cases x<;>rfl
 |_=>rfl
theorem NR:qu P (.op dst (some g) i::l) K s=gE (s.t.getD g.1 .dead) g.2 (lp (fa s i) (KO (qu P l K) s dst)) (qu P l K (s.put dst (.v undef))):=by
 rw[←EO,qu]
theorem AW:qu P (.call dst none f args::l) K s=KK P (s.ec f) (args.map s.ev) s.m (KO (qu P l K) s dst):=Mac rfl rfl
theorem LR:qu P (.call dst (some g) f args::l) K s=gE (s.t.getD g.1 .dead) g.2 (KK P (s.ec f) (args.map s.ev) s.m (KO (qu P l K) s dst)) (qu P l K (s.put dst (.v undef))):=Mac rfl EO
def zD:=(And.intro (And.intro (And.intro @MR @BW) (And.intro @NR @AW)) (And.intro (And.intro @LR @LW) (And.intro (And.intro @gE_t @gE_f) (And.intro @maa @laa))))
end
theorem T.Wy{N:Nat}{l:List RI}{K:Exit->St->Prop}{s:St}(h:qu P l (K .normal) s):T P N (.TJ l) K s:=T.TJ (Wx h)
end
end Go.Tm
set_option maxRecDepth 10000
namespace Go.Proofs.Dev
open Go Go.Tm
theorem wend{N:Nat}{K:Exit->St->Prop}{e:Exit}{t t':List D}{m g:List Ent}(hs:sa t t') (hN:N<=m.length) (ht:belows m.length t'=true) (hm:m.all (Ent.below m.length)=true) (h:K e ⟨t',m⟩):rK N K e ⟨t,m++g⟩:=
 λG w a hN' hr=>by
  obtain⟨G',k1,k2⟩:=HK (At.mk t t' m g hs) ⟨hN,ht,hm⟩ G w a hN' hr;exact⟨_,G',h,k1,k2⟩
theorem CE{l:List Int}{i j:Nat}{v:Nat}{u:Nat}{R:List Ent}(hi:i<l.length) (hj:j<l.length) :
 CallT Tryz.prog 383 [.own 1 v,aa i,aa j] (.live 1 u [.own 1 v]::.live 1 v (l.map aa)::R) λd m'=>d=.v (.bool (decide (l[i]<l[j])))/\m'=.live 1 u [.own 1 v]::.live 1 v (l.map aa)::R:=by
 refine Oj X6.ok X6.nm ?_;simp only[X6,Kf.of,zs,ze];have g1:l[i]?=some l[i]:=Lac hi;have g2:l[j]?=some l[j]:=Lac hj;refine ss (rg ?_);simp only[zz];refine ss (dy Rn ?_);simp only[zz,zy,g1,g2,hi,hj];exact rt ⟨_,rfl,rfl,rfl⟩
theorem n3{l:List Int}{x:Int}{v:Nat}{u:Nat}{R:List Ent}(hl:(l.length+1)*8<=2 ^ 47) (hR:R.all (Ent.below (R.length+2))=true) :
 CallT Tryz.prog 385 [.ref 0 u 0 0,.ifc 3 (aa x)] (.live 1 u [.own 1 v]::.live 1 v (l.map aa)::R) λd m'=>d=.tup []/\m'=.live 1 u [.own 1 (v+1)]::.live 1 (v+1) ((l++[x]).map aa)::R:=by
 refine Oj Z6.ok Z6.nm ?_;simp only[Z6,Kf.of,zs,ze];refine T.uS ?_;refine ss (rg ?_);simp only[zz];refine ss (rg ?_);simp only[zz];refine cd rfl ?_;simp only[zz];refine rg ?_;simp only[zz,List.getElem?_concat_length,hl];refine wend (t':=ds 20 []) (m:=.live 1 u [.own 1 (v+1)]::.live 1 (v+1) ((l.map aa)++[aa x])::R) (by repeat (first|exact sa.qc _|refine sa.cons (Sub.ob _) ?_)) (by simp) rfl ?_ ⟨_,rfl,rfl,?_⟩
 .simp only[sae,Sac,rad];refine⟨?_,sd _ _ ?_,hR⟩
  .simp only[Ent.below,belows,Tm.below,Xac,decide_eq_true_eq];omega
  .exact HT (Fr.l _) rfl
 .rw[Qad];rfl
theorem EE{l:List Int}{i j:Nat}{v:Nat}{u:Nat}{R:List Ent}(hi:i<l.length) (hj:j<l.length) :
 CallT Tryz.prog 386 [.own 1 v,aa i,aa j] (.live 1 u [.own 1 v]::.live 1 v (l.map aa)::R) λd m'=>d=.tup []/\m'=.live 1 u [.own 1 v]::.live 1 v (((l.set i l[j]).set j l[i]).map aa)::R:=by
 refine Oj i7.ok i7.nm ?_;simp only[i7,Kf.of,zs,ze];have g1:l[i]?=some l[i]:=Lac hi;have g2:l[j]?=some l[j]:=Lac hj;simp only[zz];refine ay Rn [[],[],[],[],[],[],[],[],[],[],[],[],[],[]] (by kernel_rfl) ?_;have g3:((l.map aa).set i (D.v (Value.int IntKind.i64 l[j])))[j]?=some (.v (.int .i64 ((l.set i l[j])[j]'(by simpa using hj)))):=by
  rw[show(D.v (Value.int IntKind.i64 l[j]))=aa l[j]from rfl,←saf,List.getElem?_map,Lac (by simpa using hj)];rfl
 have g4:j<((l.map aa).set i (D.v (Value.int IntKind.i64 l[j]))).length:=by simpa using hj
 simp only[zz,zy,g1,g2,g3,g4,hi,hj];refine⟨_,rfl,rfl,?_⟩;rw[saf,saf];rfl
theorem JR{l:List Int}{v:Nat}{u:Nat}{R:List Ent} :
 CallT Tryz.prog 161 [.own 1 v] (.live 1 u [.own 1 v]::.live 1 v (l.map aa)::R) λd m'=>d=aa l.length/\m'=.live 1 u [.own 1 v]::.live 1 v (l.map aa)::R:=by
 refine Oj I6.ok I6.nm ?_;simp only[I6,Kf.of,zs,ze];refine ss (rg ?_);simp only[zz];refine ss (rg ?_);simp only[zz];exact rt ⟨_,rfl,rfl,rfl⟩
theorem E9{l:List Int}{x:Int}{v:Nat}{u:Nat}{R:List Ent}(hl:l.length<1000000000) (hR:R.all (Ent.below (R.length+2))=true) :
 CallT Tryz.prog 384 [.ref 0 u 0 0] (.live 1 u [.own 1 v]::.live 1 v ((l++[x]).map aa)::R) λd m'=>d=.ifc 3 (aa x)/\m'=.live 1 u [.own 1 (v+1)]::.live 1 (v+1) (l.map aa)::R:=by
 refine Oj Y6.ok Y6.nm ?_;simp only[Y6,Kf.of,zs,ze];refine ss (rg ?_);simp only[zz];refine ss (rg ?_);simp only[zz];have h1:ca .i64 (((l.length+1:Nat):Int)-1)=(l.length:Int):=by rw[ou ⟨by omega,by omega⟩];omega
 have h2:(l++[x])[l.length]?=some x:=by simp
 have h3:l.length<l.length+1:=by omega
 refine ss (rg ?_);simp only[zz,h1,h2,h3];refine ss (T.regC 5 ?_);simp only[C3,B3,zz,h1,h2,h3];refine⟨by omega,?_⟩;refine ss (rg ?_);simp only[zz];refine rt ⟨_,rfl,rfl,?_⟩;rw[Qad,Sag (by simp)]
section
variable {l:List Int} {v u:Nat} {R:List Ent}
def Vw(l:List Int) (v u:Nat) (R:List Ent):List Ent:=.live 1 u [.own 1 v]::.live 1 v (l.map aa)::R
theorem av{k:Nat}{y:TypeId×FuncId×Option (Bool×Nat)}:rD (.live 1 u [.own 1 v]::R) [(217,k,some (false,1)),y] (.ifc 217 (.ref 0 u 0 0))=.fn k [.own 1 v] []:=by
 simp[rD,Pag,fa,St.ev,D.ok,RB,Tm.part]
theorem bU{k:Nat}{x y:TypeId×FuncId×Option (Bool×Nat)}(hx:(217==x.1)=false):rD (.live 1 u [.own 1 v]::R) [x,(217,k,some (false,1)),y] (.ifc 217 (.ref 0 u 0 0))=.fn k [.own 1 v] []:=by
 simp[rD,Pag,fa,St.ev,D.ok,RB,hx,Tm.part]
theorem cU{m:List Ent}{k:Nat}:rD m [(217,k,none)] (.ifc 217 (.ref 0 u 0 0))=.fn k [.ref 0 u 0 0] []:=rfl
theorem Lj{s:St}{r:Operand}{tb:List (TypeId×FuncId×Option (Bool×Nat))}:s.ec (.meth r tb)=rD s.m tb (s.ev r):=rfl
theorem xO{s:St}{k:Nat}:s.ec (.func k)=.fn k [] []:=rfl
theorem yy{N:Nat}{l:List Int}{t:List D}(hR:R.all (Ent.below (R.length+2))=true) (hN:N<=R.length+2) (ht:belows (R.length+2) t=true):Fit N ⟨t,Vw l v u R⟩:=by
 refine⟨hN,ht,?_⟩;unfold Vw;simp only[sae,Sac,rad];refine⟨?_,sd _ _ (Fr.l _),hR⟩;simp only[Ent.below,belows,Tm.below,Xac,decide_eq_true_eq];omega
theorem CB{l:List Int}{i j:Nat}(hi:i<l.length) (hj:j<l.length):(l.set i l[j]).set j l[i]=swp l i j:=by unfold swp;rw[wc hi,wc hj]
theorem up_T{l:List Int}{j:Nat}{v:Nat}{u:Nat}{R:List Ent}(hR:R.all (Ent.below (R.length+2))=true) (hj:j<l.length) (hl:l.length<1000000000) (hu:y9 l j) :
 CallT Tryz.prog 225 [.ifc 217 (.ref 0 u 0 0),aa j] (Vw l v u R) λd m'=>d=.tup []/\∃l',l'.Perm l/\Hp l' l'.length/\m'=Vw l' v u R:=by
 refine Oj O6.ok O6.nm ?_;simp only[O6,Kf.of,zs,ze];refine T.uS ?_;refine T.JK (X:=List Int×Nat) (λy=>⟨.ifc 217 (.ref 0 u 0 0)::aa y.2::ds 21 [],Vw y.1 v u R⟩) (λy=>y.2<y.1.length/\y.1.Perm l/\y9 y.1 y.2) (λy=>y.1.Perm l/\Hp y.1 y.1.length) (λy=>y.2) (l,j) ⟨hj,.refl _,hu⟩ (At.same _ _ _ (sa.qc _)) ?_ ?_ (λ_=>aO) ?_
 .rintro⟨l1,i⟩ -;exact yy hR (cad _) (by simp only[belows,Tm.below,tn,vo,Xac,Lad,decide_eq_true_eq,Sac];exact⟨by omega,Ia _ _ (Fr.h _)⟩)
 .rintro⟨l1,i⟩ ⟨h1,h2,h4⟩;dsimp only at h1 h2 h4;have h5:=h2.length_eq;unfold Vw;have hw:ca .i64 ((ca .i64 ((i:Int)-1)).tdiv 2)=(((i-1) / 2:Nat):Int):=by
   rw[ou (n:=(i:Int)-1) ⟨by omega,by omega⟩]
   cases i with
   |zero=>rfl
   |succ n=>
    rw[show((n+1:Nat):Int)-1=(n:Int) by omega,show Int.tdiv (n:Int) 2=((n / 2:Nat):Int)from rfl,ou ⟨by omega,by omega⟩];simp
  refine bk (ss (rg ?_));simp only[zz,hw];refine ss (ss (T.Wy ?_));by_cases h0:i=0
  .subst h0;have hz:((((0-1) / 2:Nat):Int)==0)=true:=rfl;simp only[zD,zz,Pad,Cad,hz];refine cd rfl ?_;simp only[zz];refine xt ?_;simp only[zz,kp];exact⟨(l1,0),⟨h2,fW h4 (.inl rfl)⟩,At.same _ _ _ (by repeat (first|exact sa.qc _|refine sa.cons (Sub.refl _) ?_|refine sa.cons (Sub.ob _) ?_))⟩
  .have h3:¬(((i-1) / 2:Nat):Int)=(i:Int):=by omega
   have hz:((((i-1) / 2:Nat):Int)==(i:Int))=false:=by simpa using h3
   have hp:(i-1) / 2<l1.length:=by omega
   simp only[zD,zz,Pad,Cad,hz,h3,Lj,av];refine Ub (CE h1 hp) ?_;by_cases hlt:iq l1 i<iq l1 ((i-1) / 2)
   .have hlt':decide (l1[i]<l1[(i-1) / 2])=true:=by rw[←wc h1,←wc hp];exact decide_eq_true hlt
    simp only[zD,zz,Pad,Cad,hz,h3,hlt',Sp];refine cd rfl ?_;simp only[zz];refine sk ?_;simp only[zz];refine ss (T.Wy ?_);simp only[zD,zz,Lj,av];refine Ub (EE hp h1) ?_;simp only[zD,zz];refine rg ?_;simp only[zz,pn];refine⟨(swp l1 ((i-1) / 2) i,(i-1) / 2),⟨by rw[BB];exact hp,(ny hp h1).trans h2,up_go h4 (by omega) h1 hlt⟩,by dsimp only;omega,?_⟩;rw[CB];exact At.same _ _ _ (by repeat (first|exact sa.qc _|refine sa.cons (Sub.refl _) ?_|refine sa.cons (Sub.ob _) ?_))
   .have hlt':decide (l1[i]<l1[(i-1) / 2])=false:=by rw[←wc h1,←wc hp];exact decide_eq_false hlt
    simp only[zD,zz,Pad,Cad,hz,h3,hlt',Sp];refine cd rfl ?_;simp only[zz];refine xt ?_;simp only[zz,kp];exact⟨(l1,i),⟨h2,fW h4 (.inr (by dsimp only;omega))⟩,At.same _ _ _ (by repeat (first|exact sa.qc _|refine sa.cons (Sub.refl _) ?_|refine sa.cons (Sub.ob _) ?_))⟩
 .rintro⟨l1,i⟩ ⟨h1,h2⟩;exact rK.of ⟨_,rfl,rfl,l1,h1,h2,rfl⟩
theorem Q4{l:List Int}{n:Nat}{v:Nat}{u:Nat}{R:List Ent}(hR:R.all (Ent.below (R.length+2))=true) (hn:n<l.length) (hl:l.length<1000000000) (hd:T2 l n 0) :
 CallT Tryz.prog 226 [.ifc 217 (.ref 0 u 0 0),.v (.int .i64 0),aa n] (Vw l v u R) λd m'=>(∃b,d=.v (.bool b))/\∃l',l'.Perm l/\Hp l' n/\iq l' n=iq l n/\m'=Vw l' v u R:=by
 refine Oj P6.ok P6.nm ?_;simp only[P6,Kf.of,zs,ze];refine T.uS ?_;refine ss (rg ?_);simp only[zz];refine ss (rg ?_);simp only[zz];refine ss ?_;refine T.JK (X:=List Int×Nat) (λy=>⟨.ifc 217 (.ref 0 u 0 0)::.v (.int .i64 0)::aa n::.dead::.dead::.dead::.v (.bool false)::aa y.2::ds 40 [],Vw y.1 v u R⟩) (λy=>y.2<=n/\y.1.Perm l/\T2 y.1 n y.2/\iq y.1 n=iq l n) (λy=>y.1.Perm l/\Hp y.1 n/\iq y.1 n=iq l n) (λy=>n-y.2) (l,0) ⟨Nat.zero_le _,.refl _,hd,rfl⟩ (At.same _ _ _ (by repeat (first|exact sa.qc _|refine sa.cons (Sub.refl _) ?_|refine sa.cons (Sub.ob _) ?_))) ?_ ?_ (λ_=>my) ?_
 .rintro⟨l1,i⟩ -;exact yy hR (cad _) (by simp only[belows,Tm.below,tn,vo,Xac,Lad,decide_eq_true_eq,Sac];exact⟨by omega,Ia _ _ (Fr.h _),Ia _ _ (Fr.h _)⟩)
 .rintro⟨l1,i⟩ ⟨h1,h2,h3,h4⟩;dsimp only at h1 h2 h3 h4;have h5:=h2.length_eq;unfold Vw;have w1:ca .i64 (2*(i:Int))=((2*i:Nat):Int):=by rw[ou ⟨by omega,by omega⟩];omega
  have w2:ca .i64 (((2*i:Nat):Int)+1)=((2*i+1:Nat):Int):=by rw[ou ⟨by omega,by omega⟩];omega
  have w3:ca .i64 (((2*i+1:Nat):Int)+1)=((2*i+2:Nat):Int):=by rw[ou ⟨by omega,by omega⟩];omega
  refine bk (ss (rg ?_));simp only[zz,w1,w2];refine ss (ss (T.Wy ?_));by_cases h0:n<=2*i+1
  .have hz:decide (((n:Nat):Int)<=((2*i+1:Nat):Int))=true:=decide_eq_true (by omega);simp only[zD,zz,Pad,Cad,hz];refine cd rfl ?_;simp only[zz];refine xt ?_;simp only[zz,kp];exact⟨(l1,i),⟨h2,dQ h3 h0,h4⟩,At.same _ _ _ (by repeat (first|exact sa.qc _|refine sa.cons (Sub.refl _) ?_|refine sa.cons (Sub.ob _) ?_))⟩
  .have hz:decide (((n:Nat):Int)<=((2*i+1:Nat):Int))=false:=decide_eq_false (by omega);have hz2:decide (((2*i+1:Nat):Int)<0)=false:=decide_eq_false (by omega);have hil:i<l1.length:=by omega
   simp only[zD,zz,Pad,Cad,hz,hz2];refine cd rfl ?_;simp only[zz];refine sk ?_;simp only[zz];refine ss (rg ?_);simp only[zz];refine ss (ss (rg ?_));simp only[zz,w3];refine ss (T.Wy ?_);by_cases h6:2*i+2<n
   .have hz3:decide (((2*i+2:Nat):Int)<(n:Int))=true:=decide_eq_true (by omega);have hj1:2*i+1<l1.length:=by omega
    have hj2:2*i+2<l1.length:=by omega
    simp only[zD,zz,Pad,Cad,hz3,Lj,av];refine Ub (CE (i:=2*i+2) (j:=2*i+1) hj2 hj1) ?_;by_cases h7:iq l1 (2*i+2)<iq l1 (2*i+1)
    .have hz4:decide (l1[2*i+2]<l1[2*i+1])=true:=by rw[←wc hj2,←wc hj1];exact decide_eq_true h7
     have hc:=cm_2 h6 h7;have hjl:=hj2;simp only[zD,zz,Pad,Cad,hz4];refine cd rfl ?_;simp only[zz];refine rg ?_;simp only[zz];refine ss (ss (T.Wy ?_));simp only[zD,zz,Lj,av];refine Ub (CE (i:=(2*i+2)) (j:=i) hjl hil) ?_;by_cases hlt:iq l1 (2*i+2)<iq l1 i
     .have hlt':decide (l1[(2*i+2)]<l1[i])=true:=by rw[←wc hjl,←wc hil];exact decide_eq_true hlt
      simp only[zD,zz,hlt',Sp];refine cd rfl ?_;simp only[zz];refine sk ?_;simp only[zz];refine ss (T.Wy ?_);simp only[zD,zz,Lj,av];refine Ub (EE (i:=i) (j:=(2*i+2)) hil hjl) ?_;simp only[zD,zz];refine rg ?_;simp only[zz,pn];refine⟨(swp l1 i (2*i+2),(2*i+2)),⟨by dsimp only;omega,(ny hil hjl).trans h2,fJ h3 (by omega) hc hlt,?_⟩,by dsimp only;omega,?_⟩
      .dsimp only;rw[im hil hjl,if_neg (by omega),if_neg (by omega)];exact h4
      rw[CB];exact At.same _ _ _ (by repeat (first|exact sa.qc _|refine sa.cons (Sub.refl _) ?_|refine sa.cons (Sub.ob _) ?_))
     .have hlt':decide (l1[(2*i+2)]<l1[i])=false:=by rw[←wc hjl,←wc hil];exact decide_eq_false hlt
      simp only[zD,zz,hlt',Sp];refine cd rfl ?_;simp only[zz];refine xt ?_;simp only[zz,kp];exact⟨(l1,i),⟨h2,bF h3 hc (by dsimp only;omega),h4⟩,At.same _ _ _ (by repeat (first|exact sa.qc _|refine sa.cons (Sub.refl _) ?_|refine sa.cons (Sub.ob _) ?_))⟩
    .have hz4:decide (l1[2*i+2]<l1[2*i+1])=false:=by rw[←wc hj2,←wc hj1];exact decide_eq_false h7
     have hc:Cm l1 n i (2*i+1):=R9 (by omega) λ_=>by omega
     have hjl:=hj1;simp only[zD,zz,Pad,Cad,hz4];refine cd rfl ?_;simp only[zz];refine sk ?_;simp only[zz];refine ss (ss (T.Wy ?_));simp only[zD,zz,Lj,av];refine Ub (CE (i:=(2*i+1)) (j:=i) hjl hil) ?_;by_cases hlt:iq l1 (2*i+1)<iq l1 i
     .have hlt':decide (l1[(2*i+1)]<l1[i])=true:=by rw[←wc hjl,←wc hil];exact decide_eq_true hlt
      simp only[zD,zz,hlt',Sp];refine cd rfl ?_;simp only[zz];refine sk ?_;simp only[zz];refine ss (T.Wy ?_);simp only[zD,zz,Lj,av];refine Ub (EE (i:=i) (j:=(2*i+1)) hil hjl) ?_;simp only[zD,zz];refine rg ?_;simp only[zz,pn];refine⟨(swp l1 i (2*i+1),(2*i+1)),⟨by dsimp only;omega,(ny hil hjl).trans h2,fJ h3 (by omega) hc hlt,?_⟩,by dsimp only;omega,?_⟩
      .dsimp only;rw[im hil hjl,if_neg (by omega),if_neg (by omega)];exact h4
      rw[CB];exact At.same _ _ _ (by repeat (first|exact sa.qc _|refine sa.cons (Sub.refl _) ?_|refine sa.cons (Sub.ob _) ?_))
     .have hlt':decide (l1[(2*i+1)]<l1[i])=false:=by rw[←wc hjl,←wc hil];exact decide_eq_false hlt
      simp only[zD,zz,hlt',Sp];refine cd rfl ?_;simp only[zz];refine xt ?_;simp only[zz,kp];exact⟨(l1,i),⟨h2,bF h3 hc (by dsimp only;omega),h4⟩,At.same _ _ _ (by repeat (first|exact sa.qc _|refine sa.cons (Sub.refl _) ?_|refine sa.cons (Sub.ob _) ?_))⟩
   .have hz3:decide (((2*i+2:Nat):Int)<(n:Int))=false:=decide_eq_false (by omega);have hjl:2*i+1<l1.length:=by omega
    have hc:Cm l1 n i (2*i+1):=R9 (by omega) λh=>(h6 h).elim;simp only[zD,zz,Pad,Cad,hz3];refine cd rfl ?_;simp only[zz];refine sk ?_;simp only[zz];refine ss (ss (T.Wy ?_));simp only[zD,zz,Lj,av];refine Ub (CE (i:=(2*i+1)) (j:=i) hjl hil) ?_;by_cases hlt:iq l1 (2*i+1)<iq l1 i
    .have hlt':decide (l1[(2*i+1)]<l1[i])=true:=by rw[←wc hjl,←wc hil];exact decide_eq_true hlt
     simp only[zD,zz,hlt',Sp];refine cd rfl ?_;simp only[zz];refine sk ?_;simp only[zz];refine ss (T.Wy ?_);simp only[zD,zz,Lj,av];refine Ub (EE (i:=i) (j:=(2*i+1)) hil hjl) ?_;simp only[zD,zz];refine rg ?_;simp only[zz,pn];refine⟨(swp l1 i (2*i+1),(2*i+1)),⟨by dsimp only;omega,(ny hil hjl).trans h2,fJ h3 (by omega) hc hlt,?_⟩,by dsimp only;omega,?_⟩
     .dsimp only;rw[im hil hjl,if_neg (by omega),if_neg (by omega)];exact h4
     rw[CB];exact At.same _ _ _ (by repeat (first|exact sa.qc _|refine sa.cons (Sub.refl _) ?_|refine sa.cons (Sub.ob _) ?_))
    .have hlt':decide (l1[(2*i+1)]<l1[i])=false:=by rw[←wc hjl,←wc hil];exact decide_eq_false hlt
     simp only[zD,zz,hlt',Sp];refine cd rfl ?_;simp only[zz];refine xt ?_;simp only[zz,kp];exact⟨(l1,i),⟨h2,bF h3 hc (by dsimp only;omega),h4⟩,At.same _ _ _ (by repeat (first|exact sa.qc _|refine sa.cons (Sub.refl _) ?_|refine sa.cons (Sub.ob _) ?_))⟩
 .rintro⟨l1,i⟩ ⟨h1,h2,h3⟩;unfold Vw;dsimp only at h1 h2 h3;simp only[zz];refine ss (rg ?_);simp only[zz];exact rt (rK.of ⟨_,rfl,⟨_,rfl⟩,l1,h1,h2,h3,rfl⟩)
theorem GO{l:List Int}{x:Int}{v:Nat}{u:Nat}{R:List Ent}(hR:R.all (Ent.below (R.length+2))=true) (hl:l.length<100000000) (hp:Hp l l.length) :
 CallT Tryz.prog 160 [.ifc 217 (.ref 0 u 0 0),.ifc 3 (aa x)] (Vw l v u R) λd m'=>d=.tup []/\∃l',l'.Perm (l++[x])/\Hp l' l'.length/\m'=Vw l' (v+1) u R:=by
 refine Oj H6.ok H6.nm ?_;simp only[H6,Kf.of,zs,ze];unfold Vw;refine ss (T.Wy ?_);simp only[zD,zz,Lj,cU];refine Ub (n3 (by omega) hR) ?_;simp only[zD,zz];refine T.Wy ?_;simp only[zD,zz,Lj];rw[bU rfl];simp only[zD,zz,Lj];refine Ub JR ?_;have w1:ca .i64 (((l.length+1:Nat):Int)-1)=((l.length:Nat):Int):=by rw[ou ⟨by omega,by omega⟩];omega
 have hlen:(l++[x]).length=l.length+1:=by simp
 simp only[zD,zz,hlen,w1,xO];refine pv (up_T (j:=l.length) hR (by omega) (by omega) (V7 hp)) ?_;rintro d m' ⟨rfl,l',h1,h2,rfl⟩;simp only[zD,zz];exact⟨_,rfl,rfl,l',h1,h2,rfl⟩
theorem n6{l:List Int}{n v:Nat}{u:Nat}{R:List Ent}(hR:R.all (Ent.below (R.length+2))=true) (hl:l.length<100000000) (hn:l.length=n+1) (hp:Hp l l.length) :
 CallT Tryz.prog 162 [.ifc 217 (.ref 0 u 0 0)] (Vw l v u R) λd m'=>∃x l',d=.ifc 3 (aa x)/\(x::l').Perm l/\(∀y∈l',x<=y)/\Hp l' l'.length/\m'=Vw l' (v+1) u R:=by
 refine Oj J6.ok J6.nm ?_;simp only[J6,Kf.of,zs,ze];unfold Vw;refine ss (rg ?_);simp only[zz];refine ss (T.Wy ?_);simp only[zD,zz,Lj];rw[bU rfl];simp only[zD,zz,Lj];refine Ub JR ?_;have w1:ca .i64 (((n+1:Nat):Int)-1)=((n:Nat):Int):=by rw[ou ⟨by omega,by omega⟩];omega
 simp only[zD,zz,hn,w1];refine ss (T.Wy ?_);simp only[zD,zz,Lj,av];refine Ub (EE (i:=0) (j:=n) (by omega) (by omega)) ?_;simp only[zD,zz];rw[CB];refine ss (T.Wy ?_);simp only[zD,zz,xO];refine pv (Q4 (n:=n) hR (by rw[BB];omega) (by rw[BB];omega) (pop_D hp hn)) ?_;rintro d m' ⟨⟨b,rfl⟩,l',h1,h2,h3,rfl⟩;have hpm:l'.Perm l:=h1.trans (ny (by omega) (by omega));have hln:l'.length=n+1:=by rw[hpm.length_eq,hn]
 obtain⟨l3,x,rfl⟩:∃l3 x,l'=l3++[x]:=⟨l'.dropLast,l'.getLast (by intro h;rw[h]at hln;cases hln),(List.dropLast_concat_getLast _).symm⟩;have hl3:l3.length=n:=by simpa using hln
 have hx:x=iq l 0:=by
  rw[im (by omega) (by omega),if_pos rfl]at h3;rw[←h3,wc (by omega)];simp[←hl3]
 unfold Vw;simp only[zD,zz];refine ss (T.Wy ?_);simp only[zD,zz,Lj,cU];refine Ub (E9 (by omega) hR) ?_;simp only[zD,zz];have hper:(x::l3).Perm l:=(List.perm_append_comm (l₁:=[x]) (l₂:=l3)).trans hpm;refine rt ⟨_,rfl,x,l3,rfl,hper,λy hy=>?_,?_,rfl⟩
 .obtain⟨k,hk,rfl⟩:=List.getElem_of_mem (hper.mem_iff.1 (List.mem_cons_of_mem _ hy));rw[hx,←wc hk];exact l6 hp k hk
 .have:=FX h2 (by omega);rwa [Sag hl3]at this
end
end Go.Proofs.Dev
