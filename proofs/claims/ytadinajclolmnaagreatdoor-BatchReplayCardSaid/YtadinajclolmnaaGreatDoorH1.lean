/-
  Contracts by hand: the conditions stand in each.
-/
import Derived.Test.YtadinajclolmnaaGreatDoorC3
import Derived.Test.YtadinajclolmnaaGreatDoorPD
import Derived.Test.YtadinajclolmnaaGreatDoorC0
import Derived.Test.YtadinajclolmnaaGreatDoorC1
import Derived.Test.YtadinajclolmnaaGreatDoorC2
open Bool renaming true->a29,false->a30
open Option renaming some->M,none->u4
open Decidable renaming decide->D1
open Go.Tm.Ent renaming live->i?
open And renaming intro->ak
open Go.Proofs.Tryz renaming prog->al
open Eq renaming trans->P!
open List renaming getD_cons_succ->P?,getD_cons_zero->U!,getElem?_eq_getElem->x!,map_set->aai,replicate_succ->jag,length->a00
open Nat renaming le_refl->A'
open Option renaming map_eq_some_iff->A!
set_option linter.all false
set_option maxHeartbeats 1000000
namespace Go.Tm
variable {S N:Nat}{x:Operand}{lo hi:Option Operand}{dst:Option Tmp}{i:I}{l:List RI}{K:Exit->St->Prop}{A B:Prop}
section
variable {P:Program} {G:Gh} {w:World} {a:Act} {s:St} {d:D} {m':List Ent}
def VZ(P:Program):Nat->List RI->(St->Prop)->St->Prop
 |0,.op dst u4 (.slice S x lo hi u4)::l,K,s=>jq (ba s (.trunc S x lo hi)) (KO (nf P l K) s dst)
 |n+1,.op dst u4 i::l,K,s=>jq (ba s i) (KO (VZ P n l K) s dst)
 |_,_,_,_=>False
theorem CQ{op:Op}(h:tG P op=M (.slice S x lo hi u4)) :
 ∃t e i,op=.slice t x lo hi u4/\P.underlying t=M (.slice e)/\P.info? e=M i/\S=i.size:=by
 unfold tG at h;split at h
 all_goals (try (simp at h;done))
 all_goals (try ((repeat' split at h)<;>(try (simp at h;done))))
 all_goals (try (simp only[A!,reduceCtorEq,and_false,exists_false]at h;done))
 all_goals (try (simp only[A!,I.slice.injEq]at h;grind))
theorem bj1{ops:Array Oper}{o:Oper}(h:yp P ops o=M (.op dst u4 i)):o.dst=dst/\W! ops o.guard=M u4/\Rs P ops o o.op=M i:=by
 unfold yp at h;split at h
 .cases h
 .rename_i g hg;split at h
  .cases h
  .simp only[A!]at h
   grind
theorem oK{ops:Array Oper}{Q:Exit->Act->World->Prop}{K:St->Prop}:∀{n:Nat}{l:List Oper}{rl:List RI}{s:St}{G:Gh}{w:World}{a:Act},Ud P ops l=M rl->VZ P n rl K s->p! G w a s->
 (∀s' G' w' a',K s'->p! G' w' a' s'->Step G w s.m G' w' s'.m->Q .normal a' w')->wpList P ops Q l a w
 |n,[],rl,s,G,w,a,hc,h,hr,hQ=>by
  simp only[Ud]at hc;injection hc with hc;subst hc;cases n<;>exact h.elim
 |n,o::l,rl,s,G,w,a,hc,h,hr,hQ=>by
  simp only[Ud]at hc;split at hc
  case h_2=>grind
  rename_i r rs D h2;injection hc with hc;subst hc
  cases r with
  |call dst g f args=>cases n<;>exact h.elim
  |op dst g i=>
   cases g with
   |some g=>cases n<;>exact h.elim
   |none=>
    obtain⟨rfl,A,hi⟩:=bj1 D;obtain⟨b,-⟩:=Yn hr A;rw[wpList,J (b rfl o rfl)];refine .inl ?_
    cases n with
    |zero=>
     cases i with
     |slice S x lo hi' mx=>
      cases mx with
      |some _=>exact h.elim
      |none=>
       obtain⟨d,m',he,p⟩:=(aj _ _).1 h;have A:q? G w s.m ((execOp a.eval o).run P w) d m':=by
        unfold Rs at hi;split at hi
        .rename_i i' c;injection hi with hi;subst hi;unfold EB at c;split at c
         .split at c
          .split at c
           all_goals simp_all
          simp_all
         simp_all
        .obtain⟨t,e,i,ho,ht,hin,rfl⟩:=CQ hi
         grind[tY]
       exact hr.Ql A λG' w' u q v=>bw h2 (Ir p) q λy j z k B C k3=>hQ y j z k B C (v.trans (by grind[TG]))
     |_=>exact h.elim
    |succ n=>
     obtain⟨d,m',he,p⟩:=(aj _ _).1 h;exact hr.Ql (OA hi hr he) λG' w' u q v=>oK h2 p q λy j z k B C k3=>hQ y j z k B C (v.trans (by grind[TG]))
theorem T.regC(n:Nat) {s:St}(h:VZ P n l (K .normal) s):T P N (.vD l) K s:=by
 refine T.intro λcode c hc G w a hN hr=>?_;obtain⟨id,ops,rfl,b⟩:=II c hc;exact wp_region_list (oK b h hr λs' G' w' a' d h2 e=>⟨s',G',d,h2,e.CZ hN⟩)
def bc3{K:St->Prop}:VZ P 0 (.op dst u4 (.slice S x lo hi u4)::l) K s=jq (ba s (.trunc S x lo hi)) (KO (nf P l K) s dst):=f'
theorem bc2{n:Nat}{K:St->Prop}:VZ P (n+1) (.op dst u4 i::l) K s=jq (ba s i) (KO (VZ P n l K) s dst):=by cases i<;>rfl
def tw(P:Program):List RI->(St->Prop)->St->Prop
 |[],K,s=>K s
 |.op dst g i::l,K,s=>
  match d? s g with
  |none=>False
  |some u4=>jq (ba s i) (KO (tw P l K) s dst)
  |some (M (c,b))=>if c=b then jq (ba s i) (KO (tw P l K) s dst)else tw P l K (s.put dst (.v undef))
 |.call dst g f args::l,K,s=>
  match d? s g with
  |none=>False
  |some u4=>(match s.ec f with|.fn k first caps=>Ae P k (first++args.map s.ev++caps) s.m (KO (tw P l K) s dst)|_=>False)
  |some (M (c,b))=>if c=b then(match s.ec f with|.fn k first caps=>Ae P k (first++args.map s.ev++caps) s.m (KO (tw P l K) s dst)|_=>False)else tw P l K (s.put dst (.v undef))
theorem JA:∀{l:List RI}{K:St->Prop}{s:St},tw P l K s->Wf P l K s
 |[],K,s,h=>h
 |.op dst g i::l,K,s,h=>by
  simp only[tw]at h;simp only[Wf];split at h
  .simp_all
  .rename_i a;obtain⟨d,m',j,h2⟩:=(aj _ _).1 h;rw[a];exact⟨d,m',j,JA h2⟩
  .rename_i c b a;rw[a];refine⟨λhc=>?_,λhc=>?_⟩
   .rw[J hc]at h;obtain⟨d,m',j,h2⟩:=(aj _ _).1 h;exact⟨d,m',j,JA h2⟩
   .rw[s7 hc]at h;exact JA h
 |.call dst g f args::l,K,s,h=>by
  simp only[tw]at h;simp only[Wf];split at h
  .simp_all
  .rename_i a;split at h
   .rename_i k first caps hf
    rw[hf];dsimp only;rw[a];exact h.mono λd m' e=>JA e
   simp_all
  .rename_i c b a;by_cases hc:c=b
   .rw[J hc]at h;split at h
    .rename_i k first caps hf
     rw[hf];dsimp only;rw[a];exact⟨λ_=>h.mono λd m' e=>JA e,λhn=>(hn hc).elim⟩
    simp_all
   .rw[s7 hc]at h;cases s.ec f<;>dsimp only<;>rw[a]<;>first|exact⟨hc,JA h⟩|exact⟨λhn=>(hc hn).elim,λ_=>JA h⟩
def gE(d:D) (b:Bool) (A B:Prop):Prop:=
 match d with
 |.v (.bool c)=>if c=b then A else B
 |.v _=>if(!b)=b then A else B
 |_=>False
@[congr] theorem bH2{d d':D} {b:Bool} {A B:Prop} (h:d=d'):gE d b A B=gE d' b A B:=by rw[h]
theorem bT6:gE (.v (.bool a29)) a29 A B=A:=by simp[gE]
theorem bT7:gE (.v (.bool a30)) a30 A B=A:=by simp[gE]
theorem bH0:gE (.v (.bool a29)) a30 A B=B:=by simp[gE]
theorem bH1:gE (.v (.bool a30)) a29 A B=B:=by simp[gE]
def yQ(P:Program) (d:D) (ds:List D) (m:List Ent) (f:D->List Ent->Prop):Prop:=match d with|.fn k first caps=>Ae P k (first++ds++caps) m f|_=>False
@[congr] theorem aG2{d d':D} {ds ds':List D} {m m':List Ent} {f:D->List Ent->Prop} (h:d=d') (h2:ds=ds') (h3:m=m'):yQ P d ds m f=yQ P d' ds' m' f:=p5
def ax7{k:Nat}{a c ds:List D}{m:List Ent}{f:D->List Ent->Prop}:yQ P (.fn k a c) ds m f=Ae P k (a++ds++c) m f:=f'
section
variable {dst:Option Tmp} {i:I} {l:List RI} {K:St->Prop} {g:Nat×Bool} {f:Cal} {args:List Operand}
def O8:tw P [] K s=K s:=f'
def az6:tw P (.op dst u4 i::l) K s=jq (ba s i) (KO (tw P l K) s dst):=f'
theorem uY:(match d? s (M g)with|none=>False|some u4=>A|some (M (c,b))=>if c=b then A else B)=gE (s.t.getD g.1 .dead) g.2 A B:=by
 obtain⟨t,b⟩:=g;simp only[d?,gE]
 grind
theorem P8:tw P (.op dst (M g) i::l) K s=gE (s.t.getD g.1 .dead) g.2 (jq (ba s i) (KO (tw P l K) s dst)) (tw P l K (s.put dst (.v undef))):=by
 rw[←uY,tw]
theorem az7:tw P (.call dst u4 f args::l) K s=yQ P (s.ec f) (args.map s.ev) s.m (KO (tw P l K) s dst):=f'
def N8:tw P (.call dst (M g) f args::l) K s=gE (s.t.getD g.1 .dead) g.2 (yQ P (s.ec f) (args.map s.ev) s.m (KO (tw P l K) s dst)) (tw P l K (s.put dst (.v undef))):=P! rfl uY
def zD:=(ak (ak (ak @O8 @az6) (ak @P8 @az7)) (ak (ak @N8 @ax7) (ak (ak @bT6 @bT7) (ak @bH0 @bH1))))
end
def T.aC{s:St}(h:tw P l (K .normal) s):T P N (.vD l) K s:=T.vD (JA h)
end
end Go.Tm
set_option maxRecDepth 10000
namespace Go.Proofs.Dev
open Go Go.Tm
variable {N i j v u k n:Nat}{t:List D}{m R:List Ent}{l:List Int}{r:Operand}{tb:List (TypeId×FuncId×Option (Bool×Nat))}{s:St}{y:TypeId×FuncId×Option (Bool×Nat)}
theorem bO4{K:Exit->St->Prop}{e:Exit}{t':List D}{g:List Ent}(c:fa t t') (hN:N<=a00 m) (ht:f? m.length t'=a29) (hm:m.all (Ent.below m.length)=a29) (h:K e ⟨t',m⟩):EP N K e ⟨t,m++g⟩:=
 λG w a b hr=>by
  obtain⟨G',k1,k2⟩:=pQ (At.mk t t' m g c) ⟨hN,ht,hm⟩ G w a b hr
  grind
theorem oI(hi:i<a00 l) (hj:j<a00 l) :
 CallT al 349 [.own 1 v,da i,da j] (i? 1 u [.own 1 v]::i? 1 v (l.map da)::R) λd m'=>d=.v (.bool (D1 (l[i]<l[j])))/\m'=i? 1 u [.own 1 v]::i? 1 v (l.map da)::R:=by
 refine Lb aQ9.ok aQ9.nm ?_;simp only[aQ9,Kf.of,zs,ze,jag];have g1:l[i]?=M l[i]:=x! hi;have g2:l[j]?=M l[j]:=x! hj;refine ss (rg ?_);simp only[zz];refine ss (dy Ie ?_);simp only[zz,zy,g1,g2,hi,hj];exact rt ⟨_,rfl,rfl,rfl⟩
theorem bc5{x:Int}(hl:(a00 l+1)*8<=2 ^ 47) (a:R.all (Ent.below (a00 R+2))=a29) :
 CallT al 351 [.ref 0 u 0 0,.ifc 3 (da x)] (i? 1 u [.own 1 v]::i? 1 v (l.map da)::R) λd m'=>d=.tup []/\m'=i? 1 u [.own 1 (v+1)]::i? 1 (v+1) ((l++[x]).map da)::R:=by
 refine Lb aQ7.ok aQ7.nm ?_;simp only[aQ7,Kf.of,zs,ze,jag];refine T.K7 ?_;refine ss (rg ?_);simp only[zz];refine ss (rg ?_);simp only[zz];refine cd rfl ?_;simp only[zz];refine rg ?_;simp only[zz,List.getElem?_concat_length,hl];refine bO4 (t':=ds 20 []) (m:=i? 1 u [.own 1 (v+1)]::i? 1 (v+1) ((l.map da)++[da x])::R) (by repeat (first|exact fa.Da _|refine fa.cons (k?.wa _) ?_)) p6 rfl ?_ ⟨_,rfl,rfl,?_⟩
 .simp only[List.all_cons,Bool.and_eq_true,List.length_cons];refine⟨?_,ua _ _ ?_,a⟩
  .simp_all[Ent.below,f?,Tm.below]
  .exact MR (Fr.l _) rfl
 simp
theorem pI(hi:i<a00 l) (hj:j<a00 l) :
 CallT al 352 [.own 1 v,da i,da j] (i? 1 u [.own 1 v]::i? 1 v (l.map da)::R) λd m'=>d=.tup []/\m'=i? 1 u [.own 1 v]::i? 1 v (((l.set i l[j]).set j l[i]).map da)::R:=by
 refine Lb aQ6.ok aQ6.nm ?_;simp only[aQ6,Kf.of,zs,ze,jag];have g1:l[i]?=M l[i]:=x! hi;have g2:l[j]?=M l[j]:=x! hj;simp only[zz];refine ay Ie [[],[],[],[],[],[],[],[],[],[],[],[],[],[]] aaK ?_;have g3:((l.map da).set i (D.v (Value.int IntKind.i64 l[j])))[j]?=M (.v (.int .i64 ((l.set i l[j])[j]' p5))):=by
  rw[show(D.v (Value.int IntKind.i64 l[j]))=da l[j]from rfl,←aai,List.getElem?_map,x! p5];rfl
 have g4:j<((l.map da).set i (D.v (Value.int IntKind.i64 l[j]))).length:=p5
 simp only[zz,zy,g1,g2,g3,g4,hi,hj];refine⟨_,rfl,rfl,?_⟩;rw[aai,aai];rfl
theorem K8:
 CallT al 255 [.own 1 v] (i? 1 u [.own 1 v]::i? 1 v (l.map da)::R) λd m'=>d=da l.length/\m'=i? 1 u [.own 1 v]::i? 1 v (l.map da)::R:=by
 refine Lb aR6.ok aR6.nm ?_;simp only[aR6,Kf.of,zs,ze,jag];refine ss (rg ?_);simp only[zz];refine ss (rg ?_);simp only[zz];exact rt ⟨_,rfl,rfl,rfl⟩
theorem bN2{x:Int}(hl:l.length<1000000000) (hR:R.all (Ent.below (a00 R+2))=a29) :
 CallT al 350 [.ref 0 u 0 0] (i? 1 u [.own 1 v]::i? 1 v ((l++[x]).map da)::R) λd m'=>d=.ifc 3 (da x)/\m'=i? 1 u [.own 1 (v+1)]::i? 1 (v+1) (l.map da)::R:=by
 refine Lb aQ8.ok aQ8.nm ?_;simp only[aQ8,Kf.of,zs,ze,jag];refine ss (rg ?_);simp only[zz];refine ss (rg ?_);simp only[zz];have a:aa .i64 (((a00 l+1:Nat):Int)-1)=(a00 l:Int):=by grind[De]
 have h2:(l++[x])[a00 l]?=M x:=p6
 have b:l.length<a00 l+1:=U
 refine ss (rg ?_);simp only[zz,a,h2,b];refine ss (T.regC 5 ?_);simp only[bc2,bc3,zz,a,h2,b];refine⟨U,?_⟩;refine ss (rg ?_);simp only[zz];refine rt ⟨_,rfl,rfl,?_⟩;simp
section
variable {l:List Int} {v u:Nat} {R:List Ent}
def Mz(l:List Int) (v u:Nat) (R:List Ent):List Ent:=i? 1 u [.own 1 v]::i? 1 v (l.map da)::R
def DC{P:Program}{dst:Option Tmp}{args:List Operand}{q:List RI}{K:St->Prop}:
 nf P (.call dst u4 (.meth r tb) args::q) K s=(match Xv s.m tb (s.ev r)with|.fn k first caps=>Ae P k (first++args.map s.ev++caps) s.m (KO (nf P q K) s dst)|_=>False):=f'
theorem tx:Xv (i? 1 u [.own 1 v]::R) [(381,k,M (a30,1)),y] (.ifc 381 (.ref 0 u 0 0))=.fn k [.own 1 v] []:=by
 simp_all[Xv,ba,St.ev,D.ok,Tm.part,yF]
theorem Sab{x:TypeId×FuncId×Option (Bool×Nat)}(hx:(381==x.1)=a30):Xv (i? 1 u [.own 1 v]::R) [x,(381,k,M (a30,1)),y] (.ifc 381 (.ref 0 u 0 0))=.fn k [.own 1 v] []:=by
 simp[Xv,List.lookup,ba,St.ev,D.ok,yF,hx,Tm.part]
theorem Tab:Xv m [(381,k,u4)] (.ifc 381 (.ref 0 u 0 0))=.fn k [.ref 0 u 0 0] []:=rfl
def Zj:s.ec (.meth r tb)=Xv s.m tb (s.ev r):=rfl
def EX:s.ec (.func k)=.fn k [] []:=rfl
theorem qB{l:List Int}(hR:R.all (Ent.below (a00 R+2))=a29) (hN:N<=a00 R+2) (ht:f? (a00 R+2) t=a29):Fit N ⟨t,Mz l v u R⟩:=by
 refine⟨hN,ht,?_⟩
 simp_all[Mz,Ent.below,f?,Tm.below,ua,Fr.l]
theorem XE{l:List Int}(hi:i<a00 l) (hj:j<a00 l):(l.set i l[j]).set j l[i]=swp l i j:=by grind[swp,gk]
theorem bO6{l:List Int}{v:Nat}{u:Nat}{R:List Ent}(p:R.all (Ent.below (a00 R+2))=a29) (hj:j<a00 l) (hl:l.length<1000000000) (hu:HpU l j) :
 CallT al 266 [.ifc 381 (.ref 0 u 0 0),da j] (Mz l v u R) λd m'=>d=.tup []/\∃l',l'.Perm l/\Hp l' l'.length/\m'=Mz l' v u R:=by
 refine Lb aR2.ok aR2.nm ?_;simp only[aR2,Kf.of,zs,ze,jag];refine T.K7 ?_;refine T.zL (X:=List Int×Nat) (λy=>⟨.ifc 381 (.ref 0 u 0 0)::da y.2::ds 21 [],Mz y.1 v u R⟩) (λy=>y.2<a00 y.1/\y.1.Perm l/\HpU y.1 y.2) (λy=>y.1.Perm l/\Hp y.1 y.1.length) (λy=>y.2) (l,j) ⟨hj,.refl _,hu⟩ (At.same _ _ _ (fa.Da _)) ?_ ?_ (λ_=>Qu) ?_
 .rintro⟨a,i⟩ -;exact qB p (A' _) (by simp_all[f?,Tm.below,Yj,Ml,bb,Fr.h])
 .rintro⟨a,i⟩ ⟨c,h2,f⟩;dsimp only at c h2 f;have h5:=h2.length_eq;unfold Mz;have hw:aa .i64 ((aa .i64 ((i:Int)-1)).tdiv 2)=(((i-1) / 2:Nat):Int):=by
   rw[De (n:=(i:Int)-1) ⟨U,U⟩]
   cases i with
   |zero=>rfl
   |succ n=>
    rw[show((n+1:Nat):Int)-1=(n:Int) by omega,show Int.tdiv (n:Int) 2=((n / 2:Nat):Int)from rfl,De ⟨U,U⟩];simp
  refine bk (ss (rg ?_));simp only[zz,hw];refine ss (ss (T.aC ?_));by_cases o:i=0
  .subst o;have e:((((0-1) / 2:Nat):Int)==0)=a29:=rfl;simp only[zD,zz,U!,P?,e];refine cd rfl ?_;simp only[zz];refine xt ?_;simp only[zz,Xp];exact⟨(a,0),⟨h2,wae f (.inl rfl)⟩,At.same _ _ _ B!⟩
  .have g:¬(((i-1) / 2:Nat):Int)=(i:Int):=U
   have e:((((i-1) / 2:Nat):Int)==(i:Int))=a30:=p5
   have m:(i-1) / 2<a00 a:=U
   simp only[zD,zz,U!,P?,e,g,Zj,tx];refine La (oI c m) ?_;by_cases k:Vr a i<Vr a ((i-1) / 2)
   .have b:D1 (a[i]<a[(i-1) / 2])=a29:=by grind[gk]
    simp only[zD,zz,U!,P?,e,g,b,Np];refine cd rfl ?_;simp only[zz];refine sk ?_;simp only[zz];refine ss (T.aC ?_);simp only[zD,zz,Zj,tx];refine La (pI m c) ?_;simp only[zD,zz];refine rg ?_;simp only[zz,Jm];refine⟨(swp a ((i-1) / 2) i,(i-1) / 2),⟨by grind[WE],(RA m c).trans h2,be9 f U c k⟩,U,?_⟩;rw[XE];exact At.same _ _ _ B!
   .have b:D1 (a[i]<a[(i-1) / 2])=a30:=by grind[gk]
    simp only[zD,zz,U!,P?,e,g,b,Np];refine cd rfl ?_;simp only[zz];refine xt ?_;simp only[zz,Xp];exact⟨(a,i),⟨h2,wae f (.inr p5)⟩,At.same _ _ _ B!⟩
 .rintro⟨a,i⟩ ⟨c,h2⟩;exact EP.of ⟨_,rfl,rfl,a,c,h2,rfl⟩
theorem aY8{l:List Int}{v:Nat}{u:Nat}{R:List Ent}(B:R.all (Ent.below (a00 R+2))=a29) (hn:n<a00 l) (hl:l.length<1000000000) (hd:HpD l n 0) :
 CallT al 267 [.ifc 381 (.ref 0 u 0 0),.v (.int .i64 0),da n] (Mz l v u R) λd m'=>(∃b,d=.v (.bool b))/\∃l',l'.Perm l/\Hp l' n/\Vr l' n=Vr l n/\m'=Mz l' v u R:=by
 refine Lb aR1.ok aR1.nm ?_;simp only[aR1,Kf.of,zs,ze,jag];refine T.K7 ?_;refine ss (rg ?_);simp only[zz];refine ss (rg ?_);simp only[zz];refine ss ?_;refine T.zL (X:=List Int×Nat) (λy=>⟨.ifc 381 (.ref 0 u 0 0)::.v (.int .i64 0)::da n::.dead::.dead::.dead::.v (.bool a30)::da y.2::ds 40 [],Mz y.1 v u R⟩) (λy=>y.2<=n/\y.1.Perm l/\HpD y.1 n y.2/\Vr y.1 n=Vr l n) (λy=>y.1.Perm l/\Hp y.1 n/\Vr y.1 n=Vr l n) (λy=>n-y.2) (l,0) ⟨Nat.zero_le _,.refl _,hd,rfl⟩ (At.same _ _ _ B!) ?_ ?_ (λ_=>Oi) ?_
 .rintro⟨a,i⟩ -;exact qB B (A' _) (by simp_all[f?,Tm.below,Yj,Ml,bb,Fr.h])
 .rintro⟨a,i⟩ ⟨s,h2,g,p⟩;dsimp only at s h2 g p;have h5:=h2.length_eq;unfold Mz;have C:aa .i64 (2*(i:Int))=((2*i:Nat):Int):=by grind[De]
  have D:aa .i64 (((2*i:Nat):Int)+1)=((2*i+1:Nat):Int):=by grind[De]
  have E:aa .i64 (((2*i+1:Nat):Int)+1)=((2*i+2:Nat):Int):=by grind[De]
  refine bk (ss (rg ?_));simp only[zz,C,D];refine ss (ss (T.aC ?_));by_cases z:n<=2*i+1
  .have t:D1 (((n:Nat):Int)<=((2*i+1:Nat):Int))=a29:=D2 U;simp only[zD,zz,U!,P?,t];refine cd rfl ?_;simp only[zz];refine xt ?_;simp only[zz,Xp];exact⟨(a,i),⟨h2,Z1 g z,p⟩,At.same _ _ _ B!⟩
  .have t:D1 (((n:Nat):Int)<=((2*i+1:Nat):Int))=a30:=R1 U;have w:D1 (((2*i+1:Nat):Int)<0)=a30:=R1 U;have f:i<a00 a:=U
   simp only[zD,zz,U!,P?,t,w];refine cd rfl ?_;simp only[zz];refine sk ?_;simp only[zz];refine ss (rg ?_);simp only[zz];refine ss (ss (rg ?_));simp only[zz,E];refine ss (T.aC ?_);by_cases x:2*i+2<n
   .have m:D1 (((2*i+2:Nat):Int)<(n:Int))=a29:=D2 U;have q:2*i+1<a00 a:=U
    have r:2*i+2<a00 a:=U
    simp only[zD,zz,U!,P?,m,Zj,tx];refine La (oI (i:=2*i+2) (j:=2*i+1) r q) ?_;by_cases A:Vr a (2*i+2)<Vr a (2*i+1)
    .have o:D1 (a[2*i+2]<a[2*i+1])=a29:=by grind[gk]
     have hc:=bZ1 x A;have e:=r;simp only[zD,zz,U!,P?,o];refine cd rfl ?_;simp only[zz];refine rg ?_;simp only[zz];refine ss (ss (T.aC ?_));simp only[zD,zz,Zj,tx];refine La (oI (i:=(2*i+2)) (j:=i) e f) ?_;by_cases k:Vr a (2*i+2)<Vr a i
     .have c:D1 (a[(2*i+2)]<a[i])=a29:=by grind[gk]
      simp only[zD,zz,c,Np];refine cd rfl ?_;simp only[zz];refine sk ?_;simp only[zz];refine ss (T.aC ?_);simp only[zD,zz,Zj,tx];refine La (pI (i:=i) (j:=(2*i+2)) f e) ?_;simp only[zD,zz];refine rg ?_;simp only[zz,Jm];refine⟨(swp a i (2*i+2),(2*i+2)),⟨U,(RA f e).trans h2,uO g U hc k,?_⟩,U,?_⟩
      .dsimp only;rw[Dn f e,s7,s7];omega
      rw[XE];exact At.same _ _ _ B!
     .have c:D1 (a[(2*i+2)]<a[i])=a30:=by grind[gk]
      simp only[zD,zz,c,Np];refine cd rfl ?_;simp only[zz];refine xt ?_;simp only[zz,Xp];exact⟨(a,i),⟨h2,SI g hc p5,p⟩,At.same _ _ _ B!⟩
    .have o:D1 (a[2*i+2]<a[2*i+1])=a30:=by grind[gk]
     have hc:CmH a n i (2*i+1):=bL3 U λ_=>U
     have e:=q;simp only[zD,zz,U!,P?,o];refine cd rfl ?_;simp only[zz];refine sk ?_;simp only[zz];refine ss (ss (T.aC ?_));simp only[zD,zz,Zj,tx];refine La (oI (i:=(2*i+1)) (j:=i) e f) ?_;by_cases k:Vr a (2*i+1)<Vr a i
     .have c:D1 (a[(2*i+1)]<a[i])=a29:=by grind[gk]
      simp only[zD,zz,c,Np];refine cd rfl ?_;simp only[zz];refine sk ?_;simp only[zz];refine ss (T.aC ?_);simp only[zD,zz,Zj,tx];refine La (pI (i:=i) (j:=(2*i+1)) f e) ?_;simp only[zD,zz];refine rg ?_;simp only[zz,Jm];refine⟨(swp a i (2*i+1),(2*i+1)),⟨U,(RA f e).trans h2,uO g U hc k,?_⟩,U,?_⟩
      .dsimp only;rw[Dn f e,s7,s7];omega
      rw[XE];exact At.same _ _ _ B!
     .have c:D1 (a[(2*i+1)]<a[i])=a30:=by grind[gk]
      simp only[zD,zz,c,Np];refine cd rfl ?_;simp only[zz];refine xt ?_;simp only[zz,Xp];exact⟨(a,i),⟨h2,SI g hc p5,p⟩,At.same _ _ _ B!⟩
   .have m:D1 (((2*i+2:Nat):Int)<(n:Int))=a30:=R1 U;have e:2*i+1<a00 a:=U
    have hc:CmH a n i (2*i+1):=bL3 U λh=>(x h).elim;simp only[zD,zz,U!,P?,m];refine cd rfl ?_;simp only[zz];refine sk ?_;simp only[zz];refine ss (ss (T.aC ?_));simp only[zD,zz,Zj,tx];refine La (oI (i:=(2*i+1)) (j:=i) e f) ?_;by_cases k:Vr a (2*i+1)<Vr a i
    .have c:D1 (a[(2*i+1)]<a[i])=a29:=by grind[gk]
     simp only[zD,zz,c,Np];refine cd rfl ?_;simp only[zz];refine sk ?_;simp only[zz];refine ss (T.aC ?_);simp only[zD,zz,Zj,tx];refine La (pI (i:=i) (j:=(2*i+1)) f e) ?_;simp only[zD,zz];refine rg ?_;simp only[zz,Jm];refine⟨(swp a i (2*i+1),(2*i+1)),⟨U,(RA f e).trans h2,uO g U hc k,?_⟩,U,?_⟩
     .dsimp only;rw[Dn f e,s7,s7];omega
     rw[XE];exact At.same _ _ _ B!
    .have c:D1 (a[(2*i+1)]<a[i])=a30:=by grind[gk]
     simp only[zD,zz,c,Np];refine cd rfl ?_;simp only[zz];refine xt ?_;simp only[zz,Xp];exact⟨(a,i),⟨h2,SI g hc p5,p⟩,At.same _ _ _ B!⟩
 .rintro⟨a,i⟩ ⟨s,h2,g⟩;unfold Mz;dsimp only at s h2 g;simp only[zz];refine ss (rg ?_);simp only[zz];exact rt (EP.of ⟨_,rfl,⟨_,rfl⟩,a,s,h2,g,rfl⟩)
theorem zY{l:List Int}{x:Int}{v:Nat}{u:Nat}{R:List Ent}(b:R.all (Ent.below (a00 R+2))=a29) (hl:l.length<100000000) (e:Hp l l.length) :
 CallT al 254 [.ifc 381 (.ref 0 u 0 0),.ifc 3 (da x)] (Mz l v u R) λd m'=>d=.tup []/\∃l',l'.Perm (l++[x])/\Hp l' l'.length/\m'=Mz l' (v+1) u R:=by
 refine Lb aR7.ok aR7.nm ?_;simp only[aR7,Kf.of,zs,ze,jag];unfold Mz;refine ss (T.aC ?_);simp only[zD,zz,Zj,Tab];refine La (bc5 U b) ?_;simp only[zD,zz];refine T.aC ?_;simp only[zD,zz,Zj];rw[Sab rfl];simp only[zD,zz,Zj];refine La K8 ?_;have f:aa .i64 (((a00 l+1:Nat):Int)-1)=((a00 l:Nat):Int):=by grind[De]
 have a:(l++[x]).length=a00 l+1:=p6
 simp only[zD,zz,a,f,EX];refine cr (bO6 (j:=a00 l) b U U (aN6 e)) ?_;rintro d m' ⟨rfl,l',c,h2,rfl⟩;simp only[zD,zz];exact⟨_,rfl,rfl,l',c,h2,rfl⟩
theorem aU4{l:List Int}{v:Nat}{u:Nat}{R:List Ent}(f:R.all (Ent.below (a00 R+2))=a29) (hl:l.length<100000000) (hn:l.length=n+1) (g:Hp l l.length) :
 CallT al 256 [.ifc 381 (.ref 0 u 0 0)] (Mz l v u R) λd m'=>∃x l',d=.ifc 3 (da x)/\(x::l').Perm l/\(∀y∈l',x<=y)/\Hp l' l'.length/\m'=Mz l' (v+1) u R:=by
 refine Lb aR5.ok aR5.nm ?_;simp only[aR5,Kf.of,zs,ze,jag];unfold Mz;refine ss (rg ?_);simp only[zz];refine ss (T.aC ?_);simp only[zD,zz,Zj];rw[Sab rfl];simp only[zD,zz,Zj];refine La K8 ?_;have p:aa .i64 (((n+1:Nat):Int)-1)=((n:Nat):Int):=by grind[De]
 simp only[zD,zz,hn,p];refine ss (T.aC ?_);simp only[zD,zz,Zj,tx];refine La (pI (i:=0) (j:=n) U U) ?_;simp only[zD,zz];rw[XE];refine ss (T.aC ?_);simp only[zD,zz,EX];refine cr (aY8 (n:=n) f (by grind[WE]) (by grind[WE]) (bi6 g hn)) ?_;rintro d m' ⟨⟨b,rfl⟩,l',h,h2,m,rfl⟩;have e:l'.Perm l:=h.trans (RA U U);have hln:l'.length=n+1:=by rw[e.length_eq,hn]
 obtain⟨c,x,rfl⟩:∃c x,l'=c++[x]:=⟨l'.dropLast,l'.getLast s5,(List.dropLast_concat_getLast _).symm⟩;have hl3:c.length=n:=p5
 have hx:x=Vr l 0:=by
  rw[Dn U U,J rfl]at m
  grind[gk]
 unfold Mz;simp only[zD,zz];refine ss (T.aC ?_);simp only[zD,zz,Zj,Tab];refine La (bN2 U f) ?_;simp only[zD,zz];have a:(x::c).Perm l:=(List.perm_append_comm (l₁:=[x]) (l₂:=c)).trans e;refine rt ⟨_,rfl,x,c,rfl,a,λy o=>?_,?_,rfl⟩
 .obtain⟨k,hk,rfl⟩:=List.getElem_of_mem (a.mem_iff.1 (List.mem_cons_of_mem _ o));rw[hx,←gk hk];exact aU5 g k hk
 .have:=ar5 h2 U
  simp_all
end
end Go.Proofs.Dev
