/-
  Contracts by hand: the conditions stand in each.
-/
import Derived.Test.YtjiaejcpmcknnaaGreatDoorEC
import Derived.Test.YtjiaejcpmcknnaaGreatDoorC3
import Derived.Test.YtjiaejcpmcknnaaGreatDoorPD
import Derived.Test.YtjiaejcpmcknnaaGreatDoorPA
import Derived.Test.YtjiaejcpmcknnaaGreatDoorC0
import Derived.Test.YtjiaejcpmcknnaaGreatDoorC1
import Derived.Test.YtjiaejcpmcknnaaGreatDoorC2
open Bool renaming and_eq_true->Vaa,and_true->Yaa,true_and->Iab
open Eq renaming trans->Naa
open List renaming all_cons->lac,getD_cons_succ->zab,getD_cons_zero->Lab,getElem?_eq_getElem->Maa,length_cons->sab,lookup->Iae,map_append->Tab,map_set->oad,take_left'->Lae
open Nat renaming le_refl->dab
open Option renaming map_eq_some_iff->Paa
set_option linter.all false
set_option maxHeartbeats 1000000
namespace Go.Tm
section
variable {P:Program} {G:Gh} {w:World} {a:Act} {s:St} {d:D} {m':List Ent}
def ZQ(P:Program):Nat->List RI->(St->Prop)->St->Prop
 |0,.op dst none (.slice S x lo hi none)::l,K,s=>Yp (fa s (.trunc S x lo hi)) (KO (kh P l K) s dst)
 |n+1,.op dst none i::l,K,s=>Yp (fa s i) (KO (ZQ P n l K) s dst)
 |_,_,_,_=>False
theorem lM{op:Op}{S:Nat}{x:Operand}{lo hi:Option Operand}(h:ED P op=some (.slice S x lo hi none)) :
 ∃t e i,op=.slice t x lo hi none/\P.underlying t=some (.slice e)/\P.info? e=some i/\S=i.size:=by
 unfold ED at h;split at h
 all_goals (try (simp at h;done))
 all_goals (try ((repeat' split at h)<;>(try (simp at h;done))))
 all_goals (try (simp only[Paa,reduceCtorEq,and_false,exists_false]at h;done))
 all_goals (try (simp only[Paa,I.slice.injEq]at h;grind))
theorem op_in{ops:Array Oper}{o:Oper}{dst:Option Tmp}{i:I}(h:Eo P ops o=some (.op dst none i)):o.dst=dst/\guardOf ops o.guard=some none/\Zq P ops o o.op=some i:=by
 unfold Eo at h;split at h
 .cases h
 .rename_i g hg;split at h
  .cases h
  .simp only[Paa]at h
   grind
theorem tH{ops:Array Oper}{Q:Exit->Act->World->Prop}{K:St->Prop}:∀{n:Nat}{l:List Oper}{rl:List RI}{s:St}{G:Gh}{w:World}{a:Act},sg P ops l=some rl->ZQ P n rl K s->Rel G w a s->
 (∀s' G' w' a',K s'->Rel G' w' a' s'->Step G w s.m G' w' s'.m->Q .normal a' w')->wpList P ops Q l a w
 |n,[],rl,s,G,w,a,hc,h,hr,hQ=>by
  simp only[sg]at hc;injection hc with hc;subst hc;cases n<;>exact h.elim
 |n,o::l,rl,s,G,w,a,hc,h,hr,hQ=>by
  simp only[sg]at hc;split at hc
  case h_2=>grind
  rename_i r rs D h2;injection hc with hc;subst hc
  cases r with
  |call dst g f args=>cases n<;>exact h.elim
  |op dst g i=>
   cases g with
   |some g=>cases n<;>exact h.elim
   |none=>
    obtain⟨rfl,A,hi⟩:=op_in D;obtain⟨b,-⟩:=sn hr A;rw[wpList,if_pos (b rfl o rfl)];refine .inl ?_
    cases n with
    |zero=>
     cases i with
     |slice S x lo hi' mx=>
      cases mx with
      |some _=>exact h.elim
      |none=>
       obtain⟨d,m',he,p⟩:=(Ol _ _).1 h;have A:Good G w s.m ((execOp a.eval o).run P w) d m':=by
        unfold Zq at hi;split at hi
        .rename_i i' c;injection hi with hi;subst hi;unfold jz at c;split at c
         .split at c
          .split at c
           all_goals simp_all
          simp_all
         simp_all
        .obtain⟨t,e,i,ho,ht,hin,rfl⟩:=lM hi
         grind[eQ]
       exact hr.ir A λG' w' u q v=>yA h2 (Ys p) q λy j z k B C k3=>hQ y j z k B C (v.trans (by grind[cE]))
     |_=>exact h.elim
    |succ n=>
     obtain⟨d,m',he,p⟩:=(Ol _ _).1 h;exact hr.ir (Iy hi hr he) λG' w' u q v=>tH h2 p q λy j z k B C k3=>hQ y j z k B C (v.trans (by grind[cE]))
theorem T.regC{N:Nat}(n:Nat) {l:List RI}{K:Exit->St->Prop}{s:St}(h:ZQ P n l (K .normal) s):T P N (.jL l) K s:=by
 intro code hc G w a hN hr;obtain⟨id,ops,rfl,b⟩:=mM hc;exact wp_region_list (tH b h hr λs' G' w' a' c h2 d=>⟨s',G',c,h2,d.EX hN⟩)
theorem B6{dst:Option Tmp}{S:Nat}{x:Operand}{lo hi:Option Operand}{l:List RI}{K:St->Prop}:ZQ P 0 (.op dst none (.slice S x lo hi none)::l) K s=Yp (fa s (.trunc S x lo hi)) (KO (kh P l K) s dst):=Naa rfl rfl
theorem C6{n:Nat}{dst:Option Tmp}{i:I}{l:List RI}{K:St->Prop}:ZQ P (n+1) (.op dst none i::l) K s=Yp (fa s i) (KO (ZQ P n l K) s dst):=by cases i<;>rfl
def Du(P:Program):List RI->(St->Prop)->St->Prop
 |[],K,s=>K s
 |.op dst g i::l,K,s=>
  match gate s g with
  |none=>False
  |some none=>Yp (fa s i) (KO (Du P l K) s dst)
  |some (some (c,b))=>if c=b then Yp (fa s i) (KO (Du P l K) s dst)else Du P l K (s.put dst (.v undef))
 |.call dst g f args::l,K,s=>
  match gate s g with
  |none=>False
  |some none=>(match s.ec f with|.fn k first caps=>ef P k (first++args.map s.ev++caps) s.m (KO (Du P l K) s dst)|_=>False)
  |some (some (c,b))=>if c=b then(match s.ec f with|.fn k first caps=>ef P k (first++args.map s.ev++caps) s.m (KO (Du P l K) s dst)|_=>False)else Du P l K (s.put dst (.v undef))
theorem Ay:∀{l:List RI}{K:St->Prop}{s:St},Du P l K s->Lj P l K s
 |[],K,s,h=>h
 |.op dst g i::l,K,s,h=>by
  simp only[Du]at h;simp only[Lj];split at h
  .simp_all
  .rename_i a;obtain⟨d,m',j,h2⟩:=(Ol _ _).1 h;rw[a];exact⟨d,m',j,Ay h2⟩
  .rename_i c b a;rw[a];refine⟨λhc=>?_,λhc=>?_⟩
   .rw[if_pos hc]at h;obtain⟨d,m',j,h2⟩:=(Ol _ _).1 h;exact⟨d,m',j,Ay h2⟩
   .rw[if_neg hc]at h;exact Ay h
 |.call dst g f args::l,K,s,h=>by
  simp only[Du]at h;simp only[Lj];split at h
  .simp_all
  .rename_i a;split at h
   .rename_i k first caps hf
    rw[hf];dsimp only;rw[a];exact h.mono λd m' e=>Ay e
   simp_all
  .rename_i c b a;by_cases hc:c=b
   .rw[if_pos hc]at h;split at h
    .rename_i k first caps hf
     rw[hf];dsimp only;rw[a];exact⟨λ_=>h.mono λd m' e=>Ay e,λhn=>(hn hc).elim⟩
    simp_all
   .rw[if_neg hc]at h;cases s.ec f<;>dsimp only<;>rw[a]<;>first|exact⟨hc,Ay h⟩|exact⟨λhn=>(hc hn).elim,λ_=>Ay h⟩
def gE(d:D) (b:Bool) (A B:Prop):Prop:=
 match d with
 |.v (.bool c)=>if c=b then A else B
 |.v _=>if(!b)=b then A else B
 |_=>False
@[congr] theorem gE_congr{d d':D} {b:Bool} {A B:Prop} (h:d=d'):gE d b A B=gE d' b A B:=by rw[h]
theorem gE_t{A B:Prop}:gE (.v (.bool true)) true A B=A:=by simp[gE]
theorem gE_f{A B:Prop}:gE (.v (.bool false)) false A B=A:=by simp[gE]
theorem gE_tf{A B:Prop}:gE (.v (.bool true)) false A B=B:=by simp[gE]
theorem gE_ft{A B:Prop}:gE (.v (.bool false)) true A B=B:=by simp[gE]
def cM(P:Program) (d:D) (ds:List D) (m:List Ent) (f:D->List Ent->Prop):Prop:=match d with|.fn k first caps=>ef P k (first++ds++caps) m f|_=>False
@[congr] theorem S4{d d':D} {ds a:List D} {m m':List Ent} {f:D->List Ent->Prop} (h:d=d') (h2:ds=a) (h3:m=m'):cM P d ds m f=cM P d' a m' f:=by simp_all
theorem xY{k:Nat}{a c ds:List D}{m:List Ent}{f:D->List Ent->Prop}:cM P (.fn k a c) ds m f=ef P k (a++ds++c) m f:=Naa rfl rfl
section
variable {dst:Option Tmp} {i:I} {l:List RI} {K:St->Prop} {g:Nat×Bool} {f:Cal} {args:List Operand}
theorem AT:Du P [] K s=K s:=Naa rfl rfl
theorem oY:Du P (.op dst none i::l) K s=Yp (fa s i) (KO (Du P l K) s dst):=Naa rfl rfl
theorem fQ{A B:Prop}:(match gate s (some g)with|none=>False|some none=>A|some (some (c,b))=>if c=b then A else B)=gE (s.t.getD g.1 .dead) g.2 A B:=by
 obtain⟨t,b⟩:=g;simp only[gate,gE]
 grind
theorem BT:Du P (.op dst (some g) i::l) K s=gE (s.t.getD g.1 .dead) g.2 (Yp (fa s i) (KO (Du P l K) s dst)) (Du P l K (s.put dst (.v undef))):=by
 rw[←fQ,Du]
theorem nY:Du P (.call dst none f args::l) K s=cM P (s.ec f) (args.map s.ev) s.m (KO (Du P l K) s dst):=Naa rfl rfl
theorem zT:Du P (.call dst (some g) f args::l) K s=gE (s.t.getD g.1 .dead) g.2 (cM P (s.ec f) (args.map s.ev) s.m (KO (Du P l K) s dst)) (Du P l K (s.put dst (.v undef))):=Naa rfl fQ
def zD:=(And.intro (And.intro (And.intro @AT @oY) (And.intro @BT @nY)) (And.intro (And.intro @zT @xY) (And.intro (And.intro @gE_t @gE_f) (And.intro @gE_tf @gE_ft))))
end
theorem T.Bz{N:Nat}{l:List RI}{K:Exit->St->Prop}{s:St}(h:Du P l (K .normal) s):T P N (.jL l) K s:=T.jL (Ay h)
end
end Go.Tm
set_option maxRecDepth 10000
namespace Go.Proofs.Dev
open Go Go.Tm
theorem wend{N:Nat}{K:Exit->St->Prop}{e:Exit}{t t':List D}{m g:List Ent}(c:va t t') (hN:N<=m.length) (ht:belows m.length t'=true) (hm:m.all (Ent.below m.length)=true) (h:K e ⟨t',m⟩):GL N K e ⟨t,m++g⟩:=
 λG w a b hr=>by
  obtain⟨G',d,f⟩:=YL (At.mk t t' m g c) ⟨hN,ht,hm⟩ G w a b hr;exact⟨_,G',h,d,f⟩
theorem wF{l:List Int}{i j:Nat}{v:Nat}{u:Nat}{R:List Ent}(hi:i<l.length) (a:j<l.length) :
 CallT Tryz.prog 383 [.own 1 v,aa i,aa j] (.live 1 u [.own 1 v]::.live 1 v (l.map aa)::R) λd m'=>d=.v (.bool (decide (l[i]<l[j])))/\m'=.live 1 u [.own 1 v]::.live 1 v (l.map aa)::R:=by
 refine gk N9.ok N9.nm ?_;simp only[N9,Kf.of,zs,ze];have g1:l[i]?=some l[i]:=Maa hi;have g2:l[j]?=some l[j]:=Maa a;refine ss (rg ?_);simp only[zz];refine ss (dy Ho ?_);simp only[zz,zy,g1,g2,hi,a];exact rt ⟨_,rfl,rfl,rfl⟩
theorem w6{l:List Int}{x:Int}{v:Nat}{u:Nat}{R:List Ent}(hl:(l.length+1)*8<=2 ^ 47) (a:R.all (Ent.below (R.length+2))=true) :
 CallT Tryz.prog 385 [.ref 0 u 0 0,.ifc 3 (aa x)] (.live 1 u [.own 1 v]::.live 1 v (l.map aa)::R) λd m'=>d=.tup []/\m'=.live 1 u [.own 1 (v+1)]::.live 1 (v+1) ((l++[x]).map aa)::R:=by
 refine gk P9.ok P9.nm ?_;simp only[P9,Kf.of,zs,ze];refine T.iU ?_;refine ss (rg ?_);simp only[zz];refine ss (rg ?_);simp only[zz];refine cd rfl ?_;simp only[zz];refine rg ?_;simp only[zz,List.getElem?_concat_length,hl];refine wend (t':=ds 20 []) (m:=.live 1 u [.own 1 (v+1)]::.live 1 (v+1) ((l.map aa)++[aa x])::R) (by repeat (first|exact va.qc _|refine va.cons (Sub.lb _) ?_)) (by simp) rfl ?_ ⟨_,rfl,rfl,?_⟩
 .simp only[lac,Vaa,sab];refine⟨?_,Bd _ _ ?_,a⟩
  .simp only[Ent.below,belows,Tm.below,Yaa,decide_eq_true_eq];omega
  .exact oV (Fr.l _) rfl
 .rw[Tab];rfl
theorem yF{l:List Int}{i j:Nat}{v:Nat}{u:Nat}{R:List Ent}(hi:i<l.length) (a:j<l.length) :
 CallT Tryz.prog 386 [.own 1 v,aa i,aa j] (.live 1 u [.own 1 v]::.live 1 v (l.map aa)::R) λd m'=>d=.tup []/\m'=.live 1 u [.own 1 v]::.live 1 v (((l.set i l[j]).set j l[i]).map aa)::R:=by
 refine gk Q9.ok Q9.nm ?_;simp only[Q9,Kf.of,zs,ze];have g1:l[i]?=some l[i]:=Maa hi;have g2:l[j]?=some l[j]:=Maa a;simp only[zz];refine ay Ho [[],[],[],[],[],[],[],[],[],[],[],[],[],[]] (by kernel_rfl) ?_;have g3:((l.map aa).set i (D.v (Value.int IntKind.i64 l[j])))[j]?=some (.v (.int .i64 ((l.set i l[j])[j]'(by simpa using a)))):=by
  rw[show(D.v (Value.int IntKind.i64 l[j]))=aa l[j]from rfl,←oad,List.getElem?_map,Maa (by simpa using a)];rfl
 have g4:j<((l.map aa).set i (D.v (Value.int IntKind.i64 l[j]))).length:=by simpa using a
 simp only[zz,zy,g1,g2,g3,g4,hi,a];refine⟨_,rfl,rfl,?_⟩;rw[oad,oad];rfl
theorem wT{l:List Int}{v:Nat}{u:Nat}{R:List Ent} :
 CallT Tryz.prog 161 [.own 1 v] (.live 1 u [.own 1 v]::.live 1 v (l.map aa)::R) λd m'=>d=aa l.length/\m'=.live 1 u [.own 1 v]::.live 1 v (l.map aa)::R:=by
 refine gk w9.ok w9.nm ?_;simp only[w9,Kf.of,zs,ze];refine ss (rg ?_);simp only[zz];refine ss (rg ?_);simp only[zz];exact rt ⟨_,rfl,rfl,rfl⟩
theorem Pop_T{l:List Int}{x:Int}{v:Nat}{u:Nat}{R:List Ent}(hl:l.length<1000000000) (hR:R.all (Ent.below (R.length+2))=true) :
 CallT Tryz.prog 384 [.ref 0 u 0 0] (.live 1 u [.own 1 v]::.live 1 v ((l++[x]).map aa)::R) λd m'=>d=.ifc 3 (aa x)/\m'=.live 1 u [.own 1 (v+1)]::.live 1 (v+1) (l.map aa)::R:=by
 refine gk O9.ok O9.nm ?_;simp only[O9,Kf.of,zs,ze];refine ss (rg ?_);simp only[zz];refine ss (rg ?_);simp only[zz];have a:ca .i64 (((l.length+1:Nat):Int)-1)=(l.length:Int):=by rw[Bu ⟨by omega,by omega⟩];omega
 have h2:(l++[x])[l.length]?=some x:=by simp
 have b:l.length<l.length+1:=by omega
 refine ss (rg ?_);simp only[zz,a,h2,b];refine ss (T.regC 5 ?_);simp only[C6,B6,zz,a,h2,b];refine⟨by omega,?_⟩;refine ss (rg ?_);simp only[zz];refine rt ⟨_,rfl,rfl,?_⟩;rw[Tab,Lae (by simp)]
section
variable {l:List Int} {v u:Nat} {R:List Ent}
def Bx(l:List Int) (v u:Nat) (R:List Ent):List Ent:=.live 1 u [.own 1 v]::.live 1 v (l.map aa)::R
theorem wv{k:Nat}{y:TypeId×FuncId×Option (Bool×Nat)}:XD (.live 1 u [.own 1 v]::R) [(217,k,some (false,1)),y] (.ifc 217 (.ref 0 u 0 0))=.fn k [.own 1 v] []:=by
 simp[XD,Iae,fa,St.ev,D.ok,wC,Tm.part]
theorem HV{k:Nat}{x y:TypeId×FuncId×Option (Bool×Nat)}(hx:(217==x.1)=false):XD (.live 1 u [.own 1 v]::R) [x,(217,k,some (false,1)),y] (.ifc 217 (.ref 0 u 0 0))=.fn k [.own 1 v] []:=by
 simp[XD,Iae,fa,St.ev,D.ok,wC,hx,Tm.part]
theorem IV{m:List Ent}{k:Nat}:XD m [(217,k,none)] (.ifc 217 (.ref 0 u 0 0))=.fn k [.ref 0 u 0 0] []:=rfl
theorem Yj{s:St}{r:Operand}{tb:List (TypeId×FuncId×Option (Bool×Nat))}:s.ec (.meth r tb)=XD s.m tb (s.ev r):=rfl
theorem XP{s:St}{k:Nat}:s.ec (.func k)=.fn k [] []:=rfl
theorem Vy{N:Nat}{l:List Int}{t:List D}(a:R.all (Ent.below (R.length+2))=true) (hN:N<=R.length+2) (ht:belows (R.length+2) t=true):Fit N ⟨t,Bx l v u R⟩:=by
 refine⟨hN,ht,?_⟩;unfold Bx;simp only[lac,Vaa,sab];refine⟨?_,Bd _ _ (Fr.l _),a⟩;simp only[Ent.below,belows,Tm.below,Yaa,decide_eq_true_eq];omega
theorem cC{l:List Int}{i j:Nat}(hi:i<l.length) (a:j<l.length):(l.set i l[j]).set j l[i]=swp l i j:=by unfold swp;rw[od hi,od a]
theorem up_T{l:List Int}{j:Nat}{v:Nat}{u:Nat}{R:List Ent}(p:R.all (Ent.below (R.length+2))=true) (q:j<l.length) (hl:l.length<1000000000) (hu:HpU l j) :
 CallT Tryz.prog 225 [.ifc 217 (.ref 0 u 0 0),aa j] (Bx l v u R) λd m'=>d=.tup []/\∃l',l'.Perm l/\Hp l' l'.length/\m'=Bx l' v u R:=by
 refine gk E9.ok E9.nm ?_;simp only[E9,Kf.of,zs,ze];refine T.iU ?_;refine T.aM (X:=List Int×Nat) (λy=>⟨.ifc 217 (.ref 0 u 0 0)::aa y.2::ds 21 [],Bx y.1 v u R⟩) (λy=>y.2<y.1.length/\y.1.Perm l/\HpU y.1 y.2) (λy=>y.1.Perm l/\Hp y.1 y.1.length) (λy=>y.2) (l,j) ⟨q,.refl _,hu⟩ (At.same _ _ _ (va.qc _)) ?_ ?_ (λ_=>EP) ?_
 .rintro⟨a,i⟩ -;exact Vy p (dab _) (by simp only[belows,Tm.below,Yn,gp,Yaa,Iab,decide_eq_true_eq,Vaa];exact⟨by omega,La _ _ (Fr.h _)⟩)
 .rintro⟨a,i⟩ ⟨c,h2,m⟩;dsimp only at c h2 m;have h5:=h2.length_eq;unfold Bx;have hw:ca .i64 ((ca .i64 ((i:Int)-1)).tdiv 2)=(((i-1) / 2:Nat):Int):=by
   rw[Bu (n:=(i:Int)-1) ⟨by omega,by omega⟩]
   cases i with
   |zero=>rfl
   |succ n=>
    rw[show((n+1:Nat):Int)-1=(n:Int) by omega,show Int.tdiv (n:Int) 2=((n / 2:Nat):Int)from rfl,Bu ⟨by omega,by omega⟩];simp
  refine bk (ss (rg ?_));simp only[zz,hw];refine ss (ss (T.Bz ?_));by_cases o:i=0
  .subst o;have g:((((0-1) / 2:Nat):Int)==0)=true:=rfl;simp only[zD,zz,Lab,zab,g];refine cd rfl ?_;simp only[zz];refine xt ?_;simp only[zz,Wp];exact⟨(a,0),⟨h2,OX m (.inl rfl)⟩,At.same _ _ _ (by repeat (first|exact va.qc _|refine va.cons (Sub.refl _) ?_|refine va.cons (Sub.lb _) ?_))⟩
  .have k:¬(((i-1) / 2:Nat):Int)=(i:Int):=by omega
   have g:((((i-1) / 2:Nat):Int)==(i:Int))=false:=by simpa using k
   have f:(i-1) / 2<a.length:=by omega
   simp only[zD,zz,Lab,zab,g,k,Yj,wv];refine Vb (wF c f) ?_;by_cases e:Pq a i<Pq a ((i-1) / 2)
   .have b:decide (a[i]<a[(i-1) / 2])=true:=by rw[←od c,←od f];exact decide_eq_true e
    simp only[zD,zz,Lab,zab,g,k,b,Dq];refine cd rfl ?_;simp only[zz];refine sk ?_;simp only[zz];refine ss (T.Bz ?_);simp only[zD,zz,Yj,wv];refine Vb (yF f c) ?_;simp only[zD,zz];refine rg ?_;simp only[zz,Tn];refine⟨(swp a ((i-1) / 2) i,(i-1) / 2),⟨by rw[aC];exact f,(Ky f c).trans h2,up_go m (by omega) c e⟩,by dsimp only;omega,?_⟩;rw[cC];exact At.same _ _ _ (by repeat (first|exact va.qc _|refine va.cons (Sub.refl _) ?_|refine va.cons (Sub.lb _) ?_))
   .have b:decide (a[i]<a[(i-1) / 2])=false:=by rw[←od c,←od f];exact decide_eq_false e
    simp only[zD,zz,Lab,zab,g,k,b,Dq];refine cd rfl ?_;simp only[zz];refine xt ?_;simp only[zz,Wp];exact⟨(a,i),⟨h2,OX m (.inr (by dsimp only;omega))⟩,At.same _ _ _ (by repeat (first|exact va.qc _|refine va.cons (Sub.refl _) ?_|refine va.cons (Sub.lb _) ?_))⟩
 .rintro⟨a,i⟩ ⟨c,h2⟩;exact GL.of ⟨_,rfl,rfl,a,c,h2,rfl⟩
theorem H7{l:List Int}{n:Nat}{v:Nat}{u:Nat}{R:List Ent}(B:R.all (Ent.below (R.length+2))=true) (hn:n<l.length) (hl:l.length<1000000000) (hd:Z5 l n 0) :
 CallT Tryz.prog 226 [.ifc 217 (.ref 0 u 0 0),.v (.int .i64 0),aa n] (Bx l v u R) λd m'=>(∃b,d=.v (.bool b))/\∃l',l'.Perm l/\Hp l' n/\Pq l' n=Pq l n/\m'=Bx l' v u R:=by
 refine gk F9.ok F9.nm ?_;simp only[F9,Kf.of,zs,ze];refine T.iU ?_;refine ss (rg ?_);simp only[zz];refine ss (rg ?_);simp only[zz];refine ss ?_;refine T.aM (X:=List Int×Nat) (λy=>⟨.ifc 217 (.ref 0 u 0 0)::.v (.int .i64 0)::aa n::.dead::.dead::.dead::.v (.bool false)::aa y.2::ds 40 [],Bx y.1 v u R⟩) (λy=>y.2<=n/\y.1.Perm l/\Z5 y.1 n y.2/\Pq y.1 n=Pq l n) (λy=>y.1.Perm l/\Hp y.1 n/\Pq y.1 n=Pq l n) (λy=>n-y.2) (l,0) ⟨Nat.zero_le _,.refl _,hd,rfl⟩ (At.same _ _ _ (by repeat (first|exact va.qc _|refine va.cons (Sub.refl _) ?_|refine va.cons (Sub.lb _) ?_))) ?_ ?_ (λ_=>Jy) ?_
 .rintro⟨c,i⟩ -;exact Vy B (dab _) (by simp only[belows,Tm.below,Yn,gp,Yaa,Iab,decide_eq_true_eq,Vaa];exact⟨by omega,La _ _ (Fr.h _),La _ _ (Fr.h _)⟩)
 .rintro⟨c,i⟩ ⟨s,h2,k,p⟩;dsimp only at s h2 k p;have h5:=h2.length_eq;unfold Bx;have C:ca .i64 (2*(i:Int))=((2*i:Nat):Int):=by rw[Bu ⟨by omega,by omega⟩];omega
  have D:ca .i64 (((2*i:Nat):Int)+1)=((2*i+1:Nat):Int):=by rw[Bu ⟨by omega,by omega⟩];omega
  have E:ca .i64 (((2*i+1:Nat):Int)+1)=((2*i+2:Nat):Int):=by rw[Bu ⟨by omega,by omega⟩];omega
  refine bk (ss (rg ?_));simp only[zz,C,D];refine ss (ss (T.Bz ?_));by_cases A:n<=2*i+1
  .have w:decide (((n:Nat):Int)<=((2*i+1:Nat):Int))=true:=decide_eq_true (by omega);simp only[zD,zz,Lab,zab,w];refine cd rfl ?_;simp only[zz];refine xt ?_;simp only[zz,Wp];exact⟨(c,i),⟨h2,CR k A,p⟩,At.same _ _ _ (by repeat (first|exact va.qc _|refine va.cons (Sub.refl _) ?_|refine va.cons (Sub.lb _) ?_))⟩
  .have w:decide (((n:Nat):Int)<=((2*i+1:Nat):Int))=false:=decide_eq_false (by omega);have x:decide (((2*i+1:Nat):Int)<0)=false:=decide_eq_false (by omega);have e:i<c.length:=by omega
   simp only[zD,zz,Lab,zab,w,x];refine cd rfl ?_;simp only[zz];refine sk ?_;simp only[zz];refine ss (rg ?_);simp only[zz];refine ss (ss (rg ?_));simp only[zz,E];refine ss (T.Bz ?_);by_cases z:2*i+2<n
   .have q:decide (((2*i+2:Nat):Int)<(n:Int))=true:=decide_eq_true (by omega);have m:2*i+1<c.length:=by omega
    have o:2*i+2<c.length:=by omega
    simp only[zD,zz,Lab,zab,q,Yj,wv];refine Vb (wF (i:=2*i+2) (j:=2*i+1) o m) ?_;by_cases t:Pq c (2*i+2)<Pq c (2*i+1)
    .have r:decide (c[2*i+2]<c[2*i+1])=true:=by rw[←od o,←od m];exact decide_eq_true t
     have hc:=cm_2 z t;have a:=o;simp only[zD,zz,Lab,zab,r];refine cd rfl ?_;simp only[zz];refine rg ?_;simp only[zz];refine ss (ss (T.Bz ?_));simp only[zD,zz,Yj,wv];refine Vb (wF (i:=(2*i+2)) (j:=i) a e) ?_;by_cases g:Pq c (2*i+2)<Pq c i
     .have f:decide (c[(2*i+2)]<c[i])=true:=by rw[←od a,←od e];exact decide_eq_true g
      simp only[zD,zz,f,Dq];refine cd rfl ?_;simp only[zz];refine sk ?_;simp only[zz];refine ss (T.Bz ?_);simp only[zD,zz,Yj,wv];refine Vb (yF (i:=i) (j:=(2*i+2)) e a) ?_;simp only[zD,zz];refine rg ?_;simp only[zz,Tn];refine⟨(swp c i (2*i+2),(2*i+2)),⟨by dsimp only;omega,(Ky e a).trans h2,mK k (by omega) hc g,?_⟩,by dsimp only;omega,?_⟩
      .dsimp only;rw[Gm e a,if_neg (by omega),if_neg (by omega)];exact p
      rw[cC];exact At.same _ _ _ (by repeat (first|exact va.qc _|refine va.cons (Sub.refl _) ?_|refine va.cons (Sub.lb _) ?_))
     .have f:decide (c[(2*i+2)]<c[i])=false:=by rw[←od a,←od e];exact decide_eq_false g
      simp only[zD,zz,f,Dq];refine cd rfl ?_;simp only[zz];refine xt ?_;simp only[zz,Wp];exact⟨(c,i),⟨h2,SF k hc (by dsimp only;omega),p⟩,At.same _ _ _ (by repeat (first|exact va.qc _|refine va.cons (Sub.refl _) ?_|refine va.cons (Sub.lb _) ?_))⟩
    .have r:decide (c[2*i+2]<c[2*i+1])=false:=by rw[←od o,←od m];exact decide_eq_false t
     have hc:Cm c n i (2*i+1):=cm_1 (by omega) λ_=>by omega
     have a:=m;simp only[zD,zz,Lab,zab,r];refine cd rfl ?_;simp only[zz];refine sk ?_;simp only[zz];refine ss (ss (T.Bz ?_));simp only[zD,zz,Yj,wv];refine Vb (wF (i:=(2*i+1)) (j:=i) a e) ?_;by_cases g:Pq c (2*i+1)<Pq c i
     .have f:decide (c[(2*i+1)]<c[i])=true:=by rw[←od a,←od e];exact decide_eq_true g
      simp only[zD,zz,f,Dq];refine cd rfl ?_;simp only[zz];refine sk ?_;simp only[zz];refine ss (T.Bz ?_);simp only[zD,zz,Yj,wv];refine Vb (yF (i:=i) (j:=(2*i+1)) e a) ?_;simp only[zD,zz];refine rg ?_;simp only[zz,Tn];refine⟨(swp c i (2*i+1),(2*i+1)),⟨by dsimp only;omega,(Ky e a).trans h2,mK k (by omega) hc g,?_⟩,by dsimp only;omega,?_⟩
      .dsimp only;rw[Gm e a,if_neg (by omega),if_neg (by omega)];exact p
      rw[cC];exact At.same _ _ _ (by repeat (first|exact va.qc _|refine va.cons (Sub.refl _) ?_|refine va.cons (Sub.lb _) ?_))
     .have f:decide (c[(2*i+1)]<c[i])=false:=by rw[←od a,←od e];exact decide_eq_false g
      simp only[zD,zz,f,Dq];refine cd rfl ?_;simp only[zz];refine xt ?_;simp only[zz,Wp];exact⟨(c,i),⟨h2,SF k hc (by dsimp only;omega),p⟩,At.same _ _ _ (by repeat (first|exact va.qc _|refine va.cons (Sub.refl _) ?_|refine va.cons (Sub.lb _) ?_))⟩
   .have q:decide (((2*i+2:Nat):Int)<(n:Int))=false:=decide_eq_false (by omega);have a:2*i+1<c.length:=by omega
    have hc:Cm c n i (2*i+1):=cm_1 (by omega) λh=>(z h).elim;simp only[zD,zz,Lab,zab,q];refine cd rfl ?_;simp only[zz];refine sk ?_;simp only[zz];refine ss (ss (T.Bz ?_));simp only[zD,zz,Yj,wv];refine Vb (wF (i:=(2*i+1)) (j:=i) a e) ?_;by_cases g:Pq c (2*i+1)<Pq c i
    .have f:decide (c[(2*i+1)]<c[i])=true:=by rw[←od a,←od e];exact decide_eq_true g
     simp only[zD,zz,f,Dq];refine cd rfl ?_;simp only[zz];refine sk ?_;simp only[zz];refine ss (T.Bz ?_);simp only[zD,zz,Yj,wv];refine Vb (yF (i:=i) (j:=(2*i+1)) e a) ?_;simp only[zD,zz];refine rg ?_;simp only[zz,Tn];refine⟨(swp c i (2*i+1),(2*i+1)),⟨by dsimp only;omega,(Ky e a).trans h2,mK k (by omega) hc g,?_⟩,by dsimp only;omega,?_⟩
     .dsimp only;rw[Gm e a,if_neg (by omega),if_neg (by omega)];exact p
     rw[cC];exact At.same _ _ _ (by repeat (first|exact va.qc _|refine va.cons (Sub.refl _) ?_|refine va.cons (Sub.lb _) ?_))
    .have f:decide (c[(2*i+1)]<c[i])=false:=by rw[←od a,←od e];exact decide_eq_false g
     simp only[zD,zz,f,Dq];refine cd rfl ?_;simp only[zz];refine xt ?_;simp only[zz,Wp];exact⟨(c,i),⟨h2,SF k hc (by dsimp only;omega),p⟩,At.same _ _ _ (by repeat (first|exact va.qc _|refine va.cons (Sub.refl _) ?_|refine va.cons (Sub.lb _) ?_))⟩
 .rintro⟨c,i⟩ ⟨s,h2,k⟩;unfold Bx;dsimp only at s h2 k;simp only[zz];refine ss (rg ?_);simp only[zz];exact rt (GL.of ⟨_,rfl,⟨_,rfl⟩,c,s,h2,k,rfl⟩)
theorem kQ{l:List Int}{x:Int}{v:Nat}{u:Nat}{R:List Ent}(b:R.all (Ent.below (R.length+2))=true) (hl:l.length<100000000) (e:Hp l l.length) :
 CallT Tryz.prog 160 [.ifc 217 (.ref 0 u 0 0),.ifc 3 (aa x)] (Bx l v u R) λd m'=>d=.tup []/\∃l',l'.Perm (l++[x])/\Hp l' l'.length/\m'=Bx l' (v+1) u R:=by
 refine gk u9.ok u9.nm ?_;simp only[u9,Kf.of,zs,ze];unfold Bx;refine ss (T.Bz ?_);simp only[zD,zz,Yj,IV];refine Vb (w6 (by omega) b) ?_;simp only[zD,zz];refine T.Bz ?_;simp only[zD,zz,Yj];rw[HV rfl];simp only[zD,zz,Yj];refine Vb wT ?_;have f:ca .i64 (((l.length+1:Nat):Int)-1)=((l.length:Nat):Int):=by rw[Bu ⟨by omega,by omega⟩];omega
 have a:(l++[x]).length=l.length+1:=by simp
 simp only[zD,zz,a,f,XP];refine Iv (up_T (j:=l.length) b (by omega) (by omega) (raa e)) ?_;rintro d m' ⟨rfl,l',c,h2,rfl⟩;simp only[zD,zz];exact⟨_,rfl,rfl,l',c,h2,rfl⟩
theorem S8{l:List Int}{n v:Nat}{u:Nat}{R:List Ent}(o:R.all (Ent.below (R.length+2))=true) (hl:l.length<100000000) (hn:l.length=n+1) (p:Hp l l.length) :
 CallT Tryz.prog 162 [.ifc 217 (.ref 0 u 0 0)] (Bx l v u R) λd m'=>∃x l',d=.ifc 3 (aa x)/\(x::l').Perm l/\(∀y∈l',x<=y)/\Hp l' l'.length/\m'=Bx l' (v+1) u R:=by
 refine gk y9.ok y9.nm ?_;simp only[y9,Kf.of,zs,ze];unfold Bx;refine ss (rg ?_);simp only[zz];refine ss (T.Bz ?_);simp only[zD,zz,Yj];rw[HV rfl];simp only[zD,zz,Yj];refine Vb wT ?_;have s:ca .i64 (((n+1:Nat):Int)-1)=((n:Nat):Int):=by rw[Bu ⟨by omega,by omega⟩];omega
 simp only[zD,zz,hn,s];refine ss (T.Bz ?_);simp only[zD,zz,Yj,wv];refine Vb (yF (i:=0) (j:=n) (by omega) (by omega)) ?_;simp only[zD,zz];rw[cC];refine ss (T.Bz ?_);simp only[zD,zz,XP];refine Iv (H7 (n:=n) o (by rw[aC];omega) (by rw[aC];omega) (pop_D p hn)) ?_;rintro d m' ⟨⟨b,rfl⟩,l',q,h2,m,rfl⟩;have g:l'.Perm l:=q.trans (Ky (by omega) (by omega));have c:l'.length=n+1:=by rw[g.length_eq,hn]
 obtain⟨e,x,rfl⟩:∃e x,l'=e++[x]:=⟨l'.dropLast,l'.getLast (by intro h;rw[h]at c;cases c),(List.dropLast_concat_getLast _).symm⟩;have f:e.length=n:=by simpa using c
 have hx:x=Pq l 0:=by
  rw[Gm (by omega) (by omega),if_pos rfl]at m;rw[←m,od (by omega)];simp[←f]
 unfold Bx;simp only[zD,zz];refine ss (T.Bz ?_);simp only[zD,zz,Yj,IV];refine Vb (Pop_T (by omega) o) ?_;simp only[zD,zz];have a:(x::e).Perm l:=(List.perm_append_comm (l₁:=[x]) (l₂:=e)).trans g;refine rt ⟨_,rfl,x,e,rfl,a,λy r=>?_,?_,rfl⟩
 .obtain⟨k,hk,rfl⟩:=List.getElem_of_mem (a.mem_iff.1 (List.mem_cons_of_mem _ r));rw[hx,←od hk];exact R8 p k hk
 .have:=oZ h2 (by omega);rwa [Lae f]at this
end
end Go.Proofs.Dev
