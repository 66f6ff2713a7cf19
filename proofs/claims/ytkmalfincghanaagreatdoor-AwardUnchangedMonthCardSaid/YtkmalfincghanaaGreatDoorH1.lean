/-
  Contracts by hand: the conditions stand in each.
-/
import Derived.Test.YtkmalfincghanaaGreatDoorEC
import Derived.Test.YtkmalfincghanaaGreatDoorC3
import Derived.Test.YtkmalfincghanaaGreatDoorPD
import Derived.Test.YtkmalfincghanaaGreatDoorPA
import Derived.Test.YtkmalfincghanaaGreatDoorC0
import Derived.Test.YtkmalfincghanaaGreatDoorC1
import Derived.Test.YtkmalfincghanaaGreatDoorC2
open Bool renaming and_eq_true→paa,and_true→Gaa,true_and→Oab
open Eq renaming trans→kaa
open List renaming all_cons→tac,getD_cons_succ→vab,getD_cons_zero→pab,getElem?_eq_getElem→iaa,length_cons→Daa,lookup→Tae,map_append→Cab,map_set→tad,take_left'→aaf
open Nat renaming le_refl→yaa
open Option renaming map_eq_some_iff→laa
set_option linter.all false
set_option maxHeartbeats 1000000
namespace Go.Tm
section
variable {P:Program} {G:Gh} {w:World} {a:Act} {s:St} {d:D} {m':List Ent}
def NJ(P:Program):Nat→List RI→(St→Prop)→St→Prop
 |0,.op dst none (.slice S x lo hi none)::l,K,s=>ym (ea s (.trunc S x lo hi)) (KO (Wf P l K) s dst)
 |n+1,.op dst none i::l,K,s=>ym (ea s i) (KO (NJ P n l K) s dst)
 |_,_,_,_=>False
theorem GF{op:Op}{S:Nat}{x:Operand}{lo hi:Option Operand}(h:Fx P op=some (.slice S x lo hi none)) :
 ∃t e i,op=.slice t x lo hi none∧P.underlying t=some (.slice e)∧P.info? e=some i∧S=i.size:=by
 unfold Fx at h;split at h
 all_goals (try (simp at h;done))
 all_goals (try ((repeat' split at h)<;>(try (simp at h;done))))
 all_goals (try (simp only[laa,reduceCtorEq,and_false,exists_false]at h;done))
 all_goals (try (simp only[laa,I.slice.injEq]at h;obtain⟨i,h1,rfl,rfl,rfl,rfl,rfl⟩:=h;exact⟨_,_,i,rfl,by assumption,h1,rfl⟩))
theorem K4{ops:Array Oper}{o:Oper}{dst:Option Tmp}{i:I}(h:Sk P ops o=some (.op dst none i)):o.dst=dst∧guardOf ops o.guard=some none∧Jm P ops o o.op=some i:=by
 unfold Sk at h;split at h
 ·cases h
 ·rename_i g hg;split at h
  ·cases h
  ·simp only[laa]at h;obtain⟨i',h1,h2⟩:=h;injection h2 with e1 e2 e3;subst e1;subst e2;subst e3;exact⟨rfl,hg,h1⟩
theorem kz{ops:Array Oper}{Q:Exit→Act→World→Prop}{K:St→Prop}:∀{n:Nat}{l:List Oper}{rl:List RI}{s:St}{G:Gh}{w:World}{a:Act},pf P ops l=some rl→NJ P n rl K s→Rel G w a s→
 (∀s' G' w' a',K s'→Rel G' w' a' s'→Step G w s.m G' w' s'.m→Q .normal a' w')→wpList P ops Q l a w
 |n,[],rl,s,G,w,a,hc,hK,hr,hQ=>by
  simp only[pf]at hc;injection hc with hc;subst hc;cases n<;>exact hK.elim
 |n,o::l,rl,s,G,w,a,hc,hK,hr,hQ=>by
  simp only[pf]at hc;split at hc
  case h_2=>cases hc
  rename_i r rs h1 h2;injection hc with hc;subst hc
  cases r with
  |call dst g f args=>cases n<;>exact hK.elim
  |op dst g i=>
   cases g with
   |some g=>cases n<;>exact hK.elim
   |none=>
    obtain⟨rfl,hg,hi⟩:=K4 h1;obtain⟨hgate1,-⟩:=Wj hr hg;rw[wpList,if_pos (hgate1 rfl o rfl)];refine .inl ?_
    cases n with
    |zero=>
     cases i with
     |slice S x lo hi' mx=>
      cases mx with
      |some _=>exact hK.elim
      |none=>
       obtain⟨d,m',he,hK'⟩:=(fj _ _).1 hK;have hg:Good G w s.m ((execOp a.eval o).run P w) d m':=by
        unfold Jm at hi;split at hi
        ·rename_i i' hi2;injection hi with hi;subst hi;unfold It at hi2;split at hi2
         ·split at hi2
          ·split at hi2
           ·simp at hi2
           ·cases hi2
          ·cases hi2
         ·cases hi2
        ·obtain⟨t,e,i,ho,ht,hin,rfl⟩:=GF hi;exact ZH hr ho ht hin he
       exact hr.Wm hg fun G' w' u hr' hs'=>Gu h2 (Un hK') hr' fun s'' G'' w'' a'' k1 k2 k3=>hQ s'' G'' w'' a'' k1 k2 (hs'.trans (by simpa only[vx] using k3))
     |_=>exact hK.elim
    |succ n=>
     obtain⟨d,m',he,hK'⟩:=(fj _ _).1 hK;exact hr.Wm (Qs hi hr he) fun G' w' u hr' hs'=>kz h2 hK' hr' fun s'' G'' w'' a'' k1 k2 k3=>hQ s'' G'' w'' a'' k1 k2 (hs'.trans (by simpa only[vx] using k3))
theorem T.l9{N:Nat}(n:Nat) {l:List RI}{K:Exit→St→Prop}{s:St}(h:NJ P n l (K .normal) s):T P N (.TF l) K s:=by
 intro code hc G w a hN hr;obtain⟨id,ops,rfl,hc'⟩:=aF hc;exact wp_region_list (kz hc' h hr fun s' G' w' a' h1 h2 h3=>⟨s',G',h1,h2,h3.RN hN⟩)
theorem lY{dst:Option Tmp}{S:Nat}{x:Operand}{lo hi:Option Operand}{l:List RI}{K:St→Prop}:NJ P 0 (.op dst none (.slice S x lo hi none)::l) K s=ym (ea s (.trunc S x lo hi)) (KO (Wf P l K) s dst):=kaa rfl rfl
theorem gY{n:Nat}{dst:Option Tmp}{i:I}{l:List RI}{K:St→Prop}:NJ P (n+1) (.op dst none i::l) K s=ym (ea s i) (KO (NJ P n l K) s dst):=by cases i<;>rfl
def qp(P:Program):List RI→(St→Prop)→St→Prop
 |[],K,s=>K s
 |.op dst g i::l,K,s=>
  match gate s g with
  |none=>False
  |some none=>ym (ea s i) (KO (qp P l K) s dst)
  |some (some (c,b))=>if c=b then ym (ea s i) (KO (qp P l K) s dst)else qp P l K (s.put dst (.v undef))
 |.call dst g f args::l,K,s=>
  match gate s g with
  |none=>False
  |some none=>(match s.ec f with|.fn k first caps=>qe P k (first++args.map s.ev++caps) s.m (KO (qp P l K) s dst)|_=>False)
  |some (some (c,b))=>if c=b then(match s.ec f with|.fn k first caps=>qe P k (first++args.map s.ev++caps) s.m (KO (qp P l K) s dst)|_=>False)else qp P l K (s.put dst (.v undef))
theorem Ss:∀{l:List RI}{K:St→Prop}{s:St},qp P l K s→Fh P l K s
 |[],K,s,h=>h
 |.op dst g i::l,K,s,h=>by
  simp only[qp]at h;simp only[Fh];split at h
  ·exact h.elim
  ·rename_i hg;obtain⟨d,m',h1,h2⟩:=(fj _ _).1 h;rw[hg];exact⟨d,m',h1,Ss h2⟩
  ·rename_i c b hg;rw[hg];refine⟨fun hc=>?_,fun hc=>?_⟩
   ·rw[if_pos hc]at h;obtain⟨d,m',h1,h2⟩:=(fj _ _).1 h;exact⟨d,m',h1,Ss h2⟩
   ·rw[if_neg hc]at h;exact Ss h
 |.call dst g f args::l,K,s,h=>by
  simp only[qp]at h;simp only[Fh];split at h
  ·exact h.elim
  ·rename_i hg;split at h
   ·rename_i k first caps hf
    rw[hf];dsimp only;rw[hg];exact h.mono fun d m' h'=>Ss h'
   ·exact h.elim
  ·rename_i c b hg;by_cases hc:c=b
   ·rw[if_pos hc]at h;split at h
    ·rename_i k first caps hf
     rw[hf];dsimp only;rw[hg];exact⟨fun _=>h.mono fun d m' h'=>Ss h',fun hn=>(hn hc).elim⟩
    ·exact h.elim
   ·rw[if_neg hc]at h;cases s.ec f<;>dsimp only<;>rw[hg]<;>first|exact⟨hc,Ss h⟩|exact⟨fun hn=>(hc hn).elim,fun _=>Ss h⟩
def gE(d:D) (b:Bool) (A B:Prop):Prop:=
 match d with
 |.v (.bool c)=>if c=b then A else B
 |.v _=>if(!b)=b then A else B
 |_=>False
@[congr] theorem w4{d d':D} {b:Bool} {A B:Prop} (h:d=d'):gE d b A B=gE d' b A B:=by rw[h]
theorem gE_t{A B:Prop}:gE (.v (.bool true)) true A B=A:=by simp[gE]
theorem O8{A B:Prop}:gE (.v (.bool false)) false A B=A:=by simp[gE]
theorem i7{A B:Prop}:gE (.v (.bool true)) false A B=B:=by simp[gE]
theorem IZ{A B:Prop}:gE (.v (.bool false)) true A B=B:=by simp[gE]
def DF(P:Program) (d:D) (ds:List D) (m:List Ent) (f:D→List Ent→Prop):Prop:=match d with|.fn k first caps=>qe P k (first++ds++caps) m f|_=>False
@[congr] theorem YU{d d':D} {ds ds':List D} {m m':List Ent} {f:D→List Ent→Prop} (h:d=d') (h2:ds=ds') (h3:m=m'):DF P d ds m f=DF P d' ds' m' f:=by rw[h,h2,h3]
theorem SS{k:Nat}{a c ds:List D}{m:List Ent}{f:D→List Ent→Prop}:DF P (.fn k a c) ds m f=qe P k (a++ds++c) m f:=kaa rfl rfl
section
variable {dst:Option Tmp} {i:I} {l:List RI} {K:St→Prop} {g:Nat×Bool} {f:Cal} {args:List Operand}
theorem VO:qp P [] K s=K s:=kaa rfl rfl
theorem fT:qp P (.op dst none i::l) K s=ym (ea s i) (KO (qp P l K) s dst):=kaa rfl rfl
theorem VH{A B:Prop}:(match gate s (some g)with|none=>False|some none=>A|some (some (c,b))=>if c=b then A else B)=gE (s.t.getD g.1 .dead) g.2 A B:=by
 obtain⟨t,b⟩:=g;simp only[gate,gE]
 cases s.t.getD t .dead with
 |v x=>cases x<;>rfl
 |_=>rfl
theorem NM:qp P (.op dst (some g) i::l) K s=gE (s.t.getD g.1 .dead) g.2 (ym (ea s i) (KO (qp P l K) s dst)) (qp P l K (s.put dst (.v undef))):=by
 rw[←VH,qp]
theorem XT:qp P (.call dst none f args::l) K s=DF P (s.ec f) (args.map s.ev) s.m (KO (qp P l K) s dst):=kaa rfl rfl
theorem CL:qp P (.call dst (some g) f args::l) K s=gE (s.t.getD g.1 .dead) g.2 (DF P (s.ec f) (args.map s.ev) s.m (KO (qp P l K) s dst)) (qp P l K (s.put dst (.v undef))):=kaa rfl VH
def zD:=(And.intro (And.intro (And.intro @VO @fT) (And.intro @NM @XT)) (And.intro (And.intro @CL @SS) (And.intro (And.intro @gE_t @O8) (And.intro @i7 @IZ))))
end
theorem T.Zt{N:Nat}{l:List RI}{K:Exit→St→Prop}{s:St}(h:qp P l (K .normal) s):T P N (.TF l) K s:=T.TF (Ss h)
end
end Go.Tm
set_option maxRecDepth 10000
namespace Go.Proofs.Dev
open Go Go.Tm
theorem X9{N:Nat}{K:Exit→St→Prop}{e:Exit}{t t':List D}{m g:List Ent}(hs:ra t t') (hN:N≤m.length) (ht:belows m.length t'=true) (hm:m.all (Ent.below m.length)=true) (h:K e ⟨t',m⟩):xE N K e ⟨t,m++g⟩:=
 fun G w a hN' hr=>by
  obtain⟨G',k1,k2⟩:=AF (At.mk t t' m g hs) ⟨hN,ht,hm⟩ G w a hN' hr;exact⟨_,G',h,k1,k2⟩
theorem Tz{l:List Int}{i j:Nat}{v:Nat}{u:Nat}{R:List Ent}(hi:i<l.length) (hj:j<l.length) :
 CallT Tryz.prog 408 [.own 1 v,aa i,aa j] (.live 1 u [.own 1 v]::.live 1 v (l.map aa)::R) fun d m'=>d=.v (.bool (decide (l[i]<l[j])))∧m'=.live 1 u [.own 1 v]::.live 1 v (l.map aa)::R:=by
 refine Xh xW.ok xW.nm ?_;simp only[xW,Kf.of,zs,ze];have g1:l[i]?=some l[i]:=iaa hi;have g2:l[j]?=some l[j]:=iaa hj;refine ss (rg ?_);simp only[zz];refine ss (dy tr ?_);simp only[zz,zy,g1,g2,hi,hj];exact rt ⟨_,rfl,rfl,rfl⟩
theorem qZ{l:List Int}{x:Int}{v:Nat}{u:Nat}{R:List Ent}(hl:(l.length+1)*8≤2 ^ 47) (hR:R.all (Ent.below (R.length+2))=true) :
 CallT Tryz.prog 410 [.ref 0 u 0 0,.ifc 3 (aa x)] (.live 1 u [.own 1 v]::.live 1 v (l.map aa)::R) fun d m'=>d=.tup []∧m'=.live 1 u [.own 1 (v+1)]::.live 1 (v+1) ((l++[x]).map aa)::R:=by
 refine Xh mY.ok mY.nm ?_;simp only[mY,Kf.of,zs,ze];refine T.JM ?_;refine ss (rg ?_);simp only[zz];refine ss (rg ?_);simp only[zz];refine cd rfl ?_;simp only[zz];refine rg ?_;simp only[zz,List.getElem?_concat_length,hl];refine X9 (t':=ds 20 []) (m:=.live 1 u [.own 1 (v+1)]::.live 1 (v+1) ((l.map aa)++[aa x])::R) (by repeat (first|exact ra.Gb _|refine ra.cons (Sub.Pa _) ?_)) (by simp) rfl ?_ ⟨_,rfl,rfl,?_⟩
 ·simp only[tac,paa,Daa];refine⟨?_,Mc _ _ ?_,hR⟩
  ·simp only[Ent.below,belows,Tm.below,Gaa,decide_eq_true_eq];omega
  ·exact lL (Fr.l _) rfl
 ·rw[Cab];rfl
theorem QA{l:List Int}{i j:Nat}{v:Nat}{u:Nat}{R:List Ent}(hi:i<l.length) (hj:j<l.length) :
 CallT Tryz.prog 411 [.own 1 v,aa i,aa j] (.live 1 u [.own 1 v]::.live 1 v (l.map aa)::R) fun d m'=>d=.tup []∧m'=.live 1 u [.own 1 v]::.live 1 v (((l.set i l[j]).set j l[i]).map aa)::R:=by
 refine Xh IV.ok IV.nm ?_;simp only[IV,Kf.of,zs,ze];have g1:l[i]?=some l[i]:=iaa hi;have g2:l[j]?=some l[j]:=iaa hj;simp only[zz];refine ay tr [[],[],[],[],[],[],[],[],[],[],[],[],[],[]] (by kernel_rfl) ?_;have g3:((l.map aa).set i (D.v (Value.int IntKind.i64 l[j])))[j]?=some (.v (.int .i64 ((l.set i l[j])[j]'(by simpa using hj)))):=by
  rw[show(D.v (Value.int IntKind.i64 l[j]))=aa l[j]from rfl,←tad,List.getElem?_map,iaa (by simpa using hj)];rfl
 have g4:j<((l.map aa).set i (D.v (Value.int IntKind.i64 l[j]))).length:=by simpa using hj
 simp only[zz,zy,g1,g2,g3,g4,hi,hj];refine⟨_,rfl,rfl,?_⟩;rw[tad,tad];rfl
theorem wL{l:List Int}{v:Nat}{u:Nat}{R:List Ent} :
 CallT Tryz.prog 209 [.own 1 v] (.live 1 u [.own 1 v]::.live 1 v (l.map aa)::R) fun d m'=>d=aa l.length∧m'=.live 1 u [.own 1 v]::.live 1 v (l.map aa)::R:=by
 refine Xh BV.ok BV.nm ?_;simp only[BV,Kf.of,zs,ze];refine ss (rg ?_);simp only[zz];refine ss (rg ?_);simp only[zz];exact rt ⟨_,rfl,rfl,rfl⟩
theorem Q4{l:List Int}{x:Int}{v:Nat}{u:Nat}{R:List Ent}(hl:l.length<1000000000) (hR:R.all (Ent.below (R.length+2))=true) :
 CallT Tryz.prog 409 [.ref 0 u 0 0] (.live 1 u [.own 1 v]::.live 1 v ((l++[x]).map aa)::R) fun d m'=>d=.ifc 3 (aa x)∧m'=.live 1 u [.own 1 (v+1)]::.live 1 (v+1) (l.map aa)::R:=by
 refine Xh oY.ok oY.nm ?_;simp only[oY,Kf.of,zs,ze];refine ss (rg ?_);simp only[zz];refine ss (rg ?_);simp only[zz];have h1:ca .i64 (((l.length+1:Nat):Int)-1)=(l.length:Int):=by rw[Vo ⟨by omega,by omega⟩];omega
 have h2:(l++[x])[l.length]?=some x:=by simp
 have h3:l.length<l.length+1:=by omega
 refine ss (rg ?_);simp only[zz,h1,h2,h3];refine ss (T.l9 5 ?_);simp only[gY,lY,zz,h1,h2,h3];refine⟨by omega,?_⟩;refine ss (rg ?_);simp only[zz];refine rt ⟨_,rfl,rfl,?_⟩;rw[Cab,aaf (by simp)]
section
variable {l:List Int} {v u:Nat} {R:List Ent}
def Vr(l:List Int) (v u:Nat) (R:List Ent):List Ent:=.live 1 u [.own 1 v]::.live 1 v (l.map aa)::R
theorem Yp{k:Nat}{y:TypeId×FuncId×Option (Bool×Nat)}:Cx (.live 1 u [.own 1 v]::R) [(247,k,some (false,1)),y] (.ifc 247 (.ref 0 u 0 0))=.fn k [.own 1 v] []:=by
 simp[Cx,Tae,ea,St.ev,D.ok,Ow,Tm.part]
theorem SM{k:Nat}{x y:TypeId×FuncId×Option (Bool×Nat)}(hx:(247==x.1)=false):Cx (.live 1 u [.own 1 v]::R) [x,(247,k,some (false,1)),y] (.ifc 247 (.ref 0 u 0 0))=.fn k [.own 1 v] []:=by
 simp[Cx,Tae,ea,St.ev,D.ok,Ow,hx,Tm.part]
theorem HN{m:List Ent}{k:Nat}:Cx m [(247,k,none)] (.ifc 247 (.ref 0 u 0 0))=.fn k [.ref 0 u 0 0] []:=rfl
theorem Mh{s:St}{r:Operand}{tb:List (TypeId×FuncId×Option (Bool×Nat))}:s.ec (.meth r tb)=Cx s.m tb (s.ev r):=rfl
theorem WH{s:St}{k:Nat}:s.ec (.func k)=.fn k [] []:=rfl
theorem Pt{N:Nat}{l:List Int}{t:List D}(hR:R.all (Ent.below (R.length+2))=true) (hN:N≤R.length+2) (ht:belows (R.length+2) t=true):Fit N ⟨t,Vr l v u R⟩:=by
 refine⟨hN,ht,?_⟩;unfold Vr;simp only[tac,paa,Daa];refine⟨?_,Mc _ _ (Fr.l _),hR⟩;simp only[Ent.below,belows,Tm.below,Gaa,decide_eq_true_eq];omega
theorem Av{l:List Int}{i j:Nat}(hi:i<l.length) (hj:j<l.length):(l.set i l[j]).set j l[i]=swp l i j:=by unfold swp;rw[Lb hi,Lb hj]
theorem U8{l:List Int}{j:Nat}{v:Nat}{u:Nat}{R:List Ent}(hR:R.all (Ent.below (R.length+2))=true) (hj:j<l.length) (hl:l.length<1000000000) (hu:wZ l j) :
 CallT Tryz.prog 241 [.ifc 247 (.ref 0 u 0 0),aa j] (Vr l v u R) fun d m'=>d=.tup []∧∃l',l'.Perm l∧Hp l' l'.length∧m'=Vr l' v u R:=by
 refine Xh kY.ok kY.nm ?_;simp only[kY,Kf.of,zs,ze];refine T.JM ?_;refine T.OE (X:=List Int×Nat) (fun y=>⟨.ifc 247 (.ref 0 u 0 0)::aa y.2::ds 21 [],Vr y.1 v u R⟩) (fun y=>y.2<y.1.length∧y.1.Perm l∧wZ y.1 y.2) (fun y=>y.1.Perm l∧Hp y.1 y.1.length) (fun y=>y.2) (l,j) ⟨hj,.refl _,hu⟩ (At.same _ _ _ (ra.Gb _)) ?_ ?_ (fun _=>kG) ?_
 ·rintro⟨l1,i⟩ -;exact Pt hR (yaa _) (by simp only[belows,Tm.below,Dk,kl,Gaa,Oab,decide_eq_true_eq,paa];exact⟨by omega,Da _ _ (Fr.h _)⟩)
 ·rintro⟨l1,i⟩ ⟨h1,h2,h4⟩;dsimp only at h1 h2 h4;have h5:=h2.length_eq;unfold Vr;have hw:ca .i64 ((ca .i64 ((i:Int)-1)).tdiv 2)=(((i-1) / 2:Nat):Int):=by
   rw[Vo (n:=(i:Int)-1) ⟨by omega,by omega⟩]
   cases i with
   |zero=>rfl
   |succ n=>
    rw[show((n+1:Nat):Int)-1=(n:Int) by omega,show Int.tdiv (n:Int) 2=((n / 2:Nat):Int)from rfl,Vo ⟨by omega,by omega⟩];simp
  refine bk (ss (rg ?_));simp only[zz,hw];refine ss (ss (T.Zt ?_));by_cases h0:i=0
  ·subst h0;have hz:((((0-1) / 2:Nat):Int)==0)=true:=rfl;simp only[zD,zz,pab,vab,hz];refine cd rfl ?_;simp only[zz];refine xt ?_;simp only[zz,qm];exact⟨(l1,0),⟨h2,qL h4 (.inl rfl)⟩,At.same _ _ _ (by repeat (first|exact ra.Gb _|refine ra.cons (Sub.refl _) ?_|refine ra.cons (Sub.Pa _) ?_))⟩
  ·have h3:¬(((i-1) / 2:Nat):Int)=(i:Int):=by omega
   have hz:((((i-1) / 2:Nat):Int)==(i:Int))=false:=by simpa using h3
   have hp:(i-1) / 2<l1.length:=by omega
   simp only[zD,zz,pab,vab,hz,h3,Mh,Yp];refine Ub (Tz h1 hp) ?_;by_cases hlt:Em l1 i<Em l1 ((i-1) / 2)
   ·have hlt':decide (l1[i]<l1[(i-1) / 2])=true:=by rw[←Lb h1,←Lb hp];exact decide_eq_true hlt
    simp only[zD,zz,pab,vab,hz,h3,hlt',xm];refine cd rfl ?_;simp only[zz];refine sk ?_;simp only[zz];refine ss (T.Zt ?_);simp only[zD,zz,Mh,Yp];refine Ub (QA hp h1) ?_;simp only[zD,zz];refine rg ?_;simp only[zz,Bk];refine⟨(swp l1 ((i-1) / 2) i,(i-1) / 2),⟨by rw[zv];exact hp,(Yr hp h1).trans h2,F3 h4 (by omega) h1 hlt⟩,by dsimp only;omega,?_⟩;rw[Av];exact At.same _ _ _ (by repeat (first|exact ra.Gb _|refine ra.cons (Sub.refl _) ?_|refine ra.cons (Sub.Pa _) ?_))
   ·have hlt':decide (l1[i]<l1[(i-1) / 2])=false:=by rw[←Lb h1,←Lb hp];exact decide_eq_false hlt
    simp only[zD,zz,pab,vab,hz,h3,hlt',xm];refine cd rfl ?_;simp only[zz];refine xt ?_;simp only[zz,qm];exact⟨(l1,i),⟨h2,qL h4 (.inr (by dsimp only;omega))⟩,At.same _ _ _ (by repeat (first|exact ra.Gb _|refine ra.cons (Sub.refl _) ?_|refine ra.cons (Sub.Pa _) ?_))⟩
 ·rintro⟨l1,i⟩ ⟨h1,h2⟩;exact xE.of ⟨_,rfl,rfl,l1,h1,h2,rfl⟩
theorem hX{l:List Int}{n:Nat}{v:Nat}{u:Nat}{R:List Ent}(hR:R.all (Ent.below (R.length+2))=true) (hn:n<l.length) (hl:l.length<1000000000) (hd:DW l n 0) :
 CallT Tryz.prog 242 [.ifc 247 (.ref 0 u 0 0),.v (.int .i64 0),aa n] (Vr l v u R) fun d m'=>(∃b,d=.v (.bool b))∧∃l',l'.Perm l∧Hp l' n∧Em l' n=Em l n∧m'=Vr l' v u R:=by
 refine Xh XV.ok XV.nm ?_;simp only[XV,Kf.of,zs,ze];refine T.JM ?_;refine ss (rg ?_);simp only[zz];refine ss (rg ?_);simp only[zz];refine ss ?_;refine T.OE (X:=List Int×Nat) (fun y=>⟨.ifc 247 (.ref 0 u 0 0)::.v (.int .i64 0)::aa n::.dead::.dead::.dead::.v (.bool false)::aa y.2::ds 40 [],Vr y.1 v u R⟩) (fun y=>y.2≤n∧y.1.Perm l∧DW y.1 n y.2∧Em y.1 n=Em l n) (fun y=>y.1.Perm l∧Hp y.1 n∧Em y.1 n=Em l n) (fun y=>n-y.2) (l,0) ⟨Nat.zero_le _,.refl _,hd,rfl⟩ (At.same _ _ _ (by repeat (first|exact ra.Gb _|refine ra.cons (Sub.refl _) ?_|refine ra.cons (Sub.Pa _) ?_))) ?_ ?_ (fun _=>Us) ?_
 ·rintro⟨l1,i⟩ -;exact Pt hR (yaa _) (by simp only[belows,Tm.below,Dk,kl,Gaa,Oab,decide_eq_true_eq,paa];exact⟨by omega,Da _ _ (Fr.h _),Da _ _ (Fr.h _)⟩)
 ·rintro⟨l1,i⟩ ⟨h1,h2,h3,h4⟩;dsimp only at h1 h2 h3 h4;have h5:=h2.length_eq;unfold Vr;have w1:ca .i64 (2*(i:Int))=((2*i:Nat):Int):=by rw[Vo ⟨by omega,by omega⟩];omega
  have w2:ca .i64 (((2*i:Nat):Int)+1)=((2*i+1:Nat):Int):=by rw[Vo ⟨by omega,by omega⟩];omega
  have w3:ca .i64 (((2*i+1:Nat):Int)+1)=((2*i+2:Nat):Int):=by rw[Vo ⟨by omega,by omega⟩];omega
  refine bk (ss (rg ?_));simp only[zz,w1,w2];refine ss (ss (T.Zt ?_));by_cases h0:n≤2*i+1
  ·have hz:decide (((n:Nat):Int)≤((2*i+1:Nat):Int))=true:=decide_eq_true (by omega);simp only[zD,zz,pab,vab,hz];refine cd rfl ?_;simp only[zz];refine xt ?_;simp only[zz,qm];exact⟨(l1,i),⟨h2,MJ h3 h0,h4⟩,At.same _ _ _ (by repeat (first|exact ra.Gb _|refine ra.cons (Sub.refl _) ?_|refine ra.cons (Sub.Pa _) ?_))⟩
  ·have hz:decide (((n:Nat):Int)≤((2*i+1:Nat):Int))=false:=decide_eq_false (by omega);have hz2:decide (((2*i+1:Nat):Int)<0)=false:=decide_eq_false (by omega);have hil:i<l1.length:=by omega
   simp only[zD,zz,pab,vab,hz,hz2];refine cd rfl ?_;simp only[zz];refine sk ?_;simp only[zz];refine ss (rg ?_);simp only[zz];refine ss (ss (rg ?_));simp only[zz,w3];refine ss (T.Zt ?_);by_cases h6:2*i+2<n
   ·have hz3:decide (((2*i+2:Nat):Int)<(n:Int))=true:=decide_eq_true (by omega);have hj1:2*i+1<l1.length:=by omega
    have hj2:2*i+2<l1.length:=by omega
    simp only[zD,zz,pab,vab,hz3,Mh,Yp];refine Ub (Tz (i:=2*i+2) (j:=2*i+1) hj2 hj1) ?_;by_cases h7:Em l1 (2*i+2)<Em l1 (2*i+1)
    ·have hz4:decide (l1[2*i+2]<l1[2*i+1])=true:=by rw[←Lb hj2,←Lb hj1];exact decide_eq_true h7
     have hc:=H8 h6 h7;have hjl:=hj2;simp only[zD,zz,pab,vab,hz4];refine cd rfl ?_;simp only[zz];refine rg ?_;simp only[zz];refine ss (ss (T.Zt ?_));simp only[zD,zz,Mh,Yp];refine Ub (Tz (i:=(2*i+2)) (j:=i) hjl hil) ?_;by_cases hlt:Em l1 (2*i+2)<Em l1 i
     ·have hlt':decide (l1[(2*i+2)]<l1[i])=true:=by rw[←Lb hjl,←Lb hil];exact decide_eq_true hlt
      simp only[zD,zz,hlt',xm];refine cd rfl ?_;simp only[zz];refine sk ?_;simp only[zz];refine ss (T.Zt ?_);simp only[zD,zz,Mh,Yp];refine Ub (QA (i:=i) (j:=(2*i+2)) hil hjl) ?_;simp only[zD,zz];refine rg ?_;simp only[zz,Bk];refine⟨(swp l1 i (2*i+2),(2*i+2)),⟨by dsimp only;omega,(Yr hil hjl).trans h2,EC h3 (by omega) hc hlt,?_⟩,by dsimp only;omega,?_⟩
      ·dsimp only;rw[vj hil hjl,if_neg (by omega),if_neg (by omega)];exact h4
      rw[Av];exact At.same _ _ _ (by repeat (first|exact ra.Gb _|refine ra.cons (Sub.refl _) ?_|refine ra.cons (Sub.Pa _) ?_))
     ·have hlt':decide (l1[(2*i+2)]<l1[i])=false:=by rw[←Lb hjl,←Lb hil];exact decide_eq_false hlt
      simp only[zD,zz,hlt',xm];refine cd rfl ?_;simp only[zz];refine xt ?_;simp only[zz,qm];exact⟨(l1,i),⟨h2,Sy h3 hc (by dsimp only;omega),h4⟩,At.same _ _ _ (by repeat (first|exact ra.Gb _|refine ra.cons (Sub.refl _) ?_|refine ra.cons (Sub.Pa _) ?_))⟩
    ·have hz4:decide (l1[2*i+2]<l1[2*i+1])=false:=by rw[←Lb hj2,←Lb hj1];exact decide_eq_false h7
     have hc:Cm l1 n i (2*i+1):=o6 (by omega) fun _=>by omega
     have hjl:=hj1;simp only[zD,zz,pab,vab,hz4];refine cd rfl ?_;simp only[zz];refine sk ?_;simp only[zz];refine ss (ss (T.Zt ?_));simp only[zD,zz,Mh,Yp];refine Ub (Tz (i:=(2*i+1)) (j:=i) hjl hil) ?_;by_cases hlt:Em l1 (2*i+1)<Em l1 i
     ·have hlt':decide (l1[(2*i+1)]<l1[i])=true:=by rw[←Lb hjl,←Lb hil];exact decide_eq_true hlt
      simp only[zD,zz,hlt',xm];refine cd rfl ?_;simp only[zz];refine sk ?_;simp only[zz];refine ss (T.Zt ?_);simp only[zD,zz,Mh,Yp];refine Ub (QA (i:=i) (j:=(2*i+1)) hil hjl) ?_;simp only[zD,zz];refine rg ?_;simp only[zz,Bk];refine⟨(swp l1 i (2*i+1),(2*i+1)),⟨by dsimp only;omega,(Yr hil hjl).trans h2,EC h3 (by omega) hc hlt,?_⟩,by dsimp only;omega,?_⟩
      ·dsimp only;rw[vj hil hjl,if_neg (by omega),if_neg (by omega)];exact h4
      rw[Av];exact At.same _ _ _ (by repeat (first|exact ra.Gb _|refine ra.cons (Sub.refl _) ?_|refine ra.cons (Sub.Pa _) ?_))
     ·have hlt':decide (l1[(2*i+1)]<l1[i])=false:=by rw[←Lb hjl,←Lb hil];exact decide_eq_false hlt
      simp only[zD,zz,hlt',xm];refine cd rfl ?_;simp only[zz];refine xt ?_;simp only[zz,qm];exact⟨(l1,i),⟨h2,Sy h3 hc (by dsimp only;omega),h4⟩,At.same _ _ _ (by repeat (first|exact ra.Gb _|refine ra.cons (Sub.refl _) ?_|refine ra.cons (Sub.Pa _) ?_))⟩
   ·have hz3:decide (((2*i+2:Nat):Int)<(n:Int))=false:=decide_eq_false (by omega);have hjl:2*i+1<l1.length:=by omega
    have hc:Cm l1 n i (2*i+1):=o6 (by omega) fun h=>(h6 h).elim;simp only[zD,zz,pab,vab,hz3];refine cd rfl ?_;simp only[zz];refine sk ?_;simp only[zz];refine ss (ss (T.Zt ?_));simp only[zD,zz,Mh,Yp];refine Ub (Tz (i:=(2*i+1)) (j:=i) hjl hil) ?_;by_cases hlt:Em l1 (2*i+1)<Em l1 i
    ·have hlt':decide (l1[(2*i+1)]<l1[i])=true:=by rw[←Lb hjl,←Lb hil];exact decide_eq_true hlt
     simp only[zD,zz,hlt',xm];refine cd rfl ?_;simp only[zz];refine sk ?_;simp only[zz];refine ss (T.Zt ?_);simp only[zD,zz,Mh,Yp];refine Ub (QA (i:=i) (j:=(2*i+1)) hil hjl) ?_;simp only[zD,zz];refine rg ?_;simp only[zz,Bk];refine⟨(swp l1 i (2*i+1),(2*i+1)),⟨by dsimp only;omega,(Yr hil hjl).trans h2,EC h3 (by omega) hc hlt,?_⟩,by dsimp only;omega,?_⟩
     ·dsimp only;rw[vj hil hjl,if_neg (by omega),if_neg (by omega)];exact h4
     rw[Av];exact At.same _ _ _ (by repeat (first|exact ra.Gb _|refine ra.cons (Sub.refl _) ?_|refine ra.cons (Sub.Pa _) ?_))
    ·have hlt':decide (l1[(2*i+1)]<l1[i])=false:=by rw[←Lb hjl,←Lb hil];exact decide_eq_false hlt
     simp only[zD,zz,hlt',xm];refine cd rfl ?_;simp only[zz];refine xt ?_;simp only[zz,qm];exact⟨(l1,i),⟨h2,Sy h3 hc (by dsimp only;omega),h4⟩,At.same _ _ _ (by repeat (first|exact ra.Gb _|refine ra.cons (Sub.refl _) ?_|refine ra.cons (Sub.Pa _) ?_))⟩
 ·rintro⟨l1,i⟩ ⟨h1,h2,h3⟩;unfold Vr;dsimp only at h1 h2 h3;simp only[zz];refine ss (rg ?_);simp only[zz];exact rt (xE.of ⟨_,rfl,⟨_,rfl⟩,l1,h1,h2,h3,rfl⟩)
theorem OI{l:List Int}{x:Int}{v:Nat}{u:Nat}{R:List Ent}(hR:R.all (Ent.below (R.length+2))=true) (hl:l.length<100000000) (hp:Hp l l.length) :
 CallT Tryz.prog 208 [.ifc 247 (.ref 0 u 0 0),.ifc 3 (aa x)] (Vr l v u R) fun d m'=>d=.tup []∧∃l',l'.Perm (l++[x])∧Hp l' l'.length∧m'=Vr l' (v+1) u R:=by
 refine Xh FY.ok FY.nm ?_;simp only[FY,Kf.of,zs,ze];unfold Vr;refine ss (T.Zt ?_);simp only[zD,zz,Mh,HN];refine Ub (qZ (by omega) hR) ?_;simp only[zD,zz];refine T.Zt ?_;simp only[zD,zz,Mh];rw[SM rfl];simp only[zD,zz,Mh];refine Ub wL ?_;have w1:ca .i64 (((l.length+1:Nat):Int)-1)=((l.length:Nat):Int):=by rw[Vo ⟨by omega,by omega⟩];omega
 have hlen:(l++[x]).length=l.length+1:=by simp
 simp only[zD,zz,hlen,w1,WH];refine jq (U8 (j:=l.length) hR (by omega) (by omega) (kW hp)) ?_;rintro d m' ⟨rfl,l',h1,h2,rfl⟩;simp only[zD,zz];exact⟨_,rfl,rfl,l',h1,h2,rfl⟩
theorem MV{l:List Int}{n v:Nat}{u:Nat}{R:List Ent}(hR:R.all (Ent.below (R.length+2))=true) (hl:l.length<100000000) (hn:l.length=n+1) (hp:Hp l l.length) :
 CallT Tryz.prog 210 [.ifc 247 (.ref 0 u 0 0)] (Vr l v u R) fun d m'=>∃x l',d=.ifc 3 (aa x)∧(x::l').Perm l∧(∀y∈l',x≤y)∧Hp l' l'.length∧m'=Vr l' (v+1) u R:=by
 refine Xh NY.ok NY.nm ?_;simp only[NY,Kf.of,zs,ze];unfold Vr;refine ss (rg ?_);simp only[zz];refine ss (T.Zt ?_);simp only[zD,zz,Mh];rw[SM rfl];simp only[zD,zz,Mh];refine Ub wL ?_;have w1:ca .i64 (((n+1:Nat):Int)-1)=((n:Nat):Int):=by rw[Vo ⟨by omega,by omega⟩];omega
 simp only[zD,zz,hn,w1];refine ss (T.Zt ?_);simp only[zD,zz,Mh,Yp];refine Ub (QA (i:=0) (j:=n) (by omega) (by omega)) ?_;simp only[zD,zz];rw[Av];refine ss (T.Zt ?_);simp only[zD,zz,WH];refine jq (hX (n:=n) hR (by rw[zv];omega) (by rw[zv];omega) (N7 hp hn)) ?_;rintro d m' ⟨⟨b,rfl⟩,l',h1,h2,h3,rfl⟩;have hpm:l'.Perm l:=h1.trans (Yr (by omega) (by omega));have hln:l'.length=n+1:=by rw[hpm.length_eq,hn]
 obtain⟨l3,x,rfl⟩:∃l3 x,l'=l3++[x]:=⟨l'.dropLast,l'.getLast (by intro h;rw[h]at hln;cases hln),(List.dropLast_concat_getLast _).symm⟩;have hl3:l3.length=n:=by simpa using hln
 have hx:x=Em l 0:=by
  rw[vj (by omega) (by omega),if_pos rfl]at h3;rw[←h3,Lb (by omega)];simp[←hl3]
 unfold Vr;simp only[zD,zz];refine ss (T.Zt ?_);simp only[zD,zz,Mh,HN];refine Ub (Q4 (by omega) hR) ?_;simp only[zD,zz];have hper:(x::l3).Perm l:=(List.perm_append_comm (l₁:=[x]) (l₂:=l3)).trans hpm;refine rt ⟨_,rfl,x,l3,rfl,hper,fun y hy=>?_,?_,rfl⟩
 ·obtain⟨k,hk,rfl⟩:=List.getElem_of_mem (hper.mem_iff.1 (List.mem_cons_of_mem _ hy));rw[hx,←Lb hk];exact fZ hp k hk
 ·have:=ES h2 (by omega);rwa [aaf hl3]at this
end
end Go.Proofs.Dev
