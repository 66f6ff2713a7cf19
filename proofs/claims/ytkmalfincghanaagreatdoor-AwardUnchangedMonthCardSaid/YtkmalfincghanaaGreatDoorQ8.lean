/-
  Contracts of the functions: each answers as its plain partial function says.
-/
import Derived.Test.YtkmalfincghanaaGreatDoorK
import Derived.Test.YtkmalfincghanaaGreatDoorG
import Derived.Test.YtkmalfincghanaaGreatDoorPD
import Derived.Test.YtkmalfincghanaaGreatDoorH1
import Derived.Test.YtkmalfincghanaaGreatDoorH2
import Derived.Test.YtkmalfincghanaaGreatDoorQ4
import Derived.Test.YtkmalfincghanaaGreatDoorQ5
import Derived.Test.YtkmalfincghanaaGreatDoorQ6
import Derived.Test.YtkmalfincghanaaGreatDoorQ7
open Bool renaming and_eq_true→paa,and_true→Gaa,true_and→Oab
open List renaming all_cons→tac,append_assoc→jab,append_nil→Naa,cons_append→Yaa,eq_nil_of_length_eq_zero→Eaa,ext_getElem→xac,getElem?_append_left→Iaa,getElem?_concat_length→wab,getElem?_eq_getElem→iaa,getElem?_map→Dab,getElem_mem→raa,length_append→Haa,length_filter_le→Maa,length_replicate→Kab,map_append→Cab,map_set→tad,mem_map→Tab,replicate→maa,replicate_succ'→Jac,set_append→Aad,set_cons_zero→iac
open List.Perm renaming append_right→mae
open Nat renaming add_comm→Eab,le_trans→Iab,sub_self→cac,zero_le→Bab
open Option renaming map_some→Vab
open Option.some renaming inj→Uaa,injEq→zaa
set_option linter.all false
set_option maxHeartbeats 1000000
set_option maxRecDepth 10000
namespace Go.Proofs.Dev
open Go Go.Tm
def bq(n:Nat) (F:Nat→List Int):LL:=(List.range n).map fun d=>((F d).length,F d)
theorem OD{n:Nat}{F:Nat→List Int}:(bq n F).length=n:=by simp[bq]
theorem cE{n d:Nat}{F:Nat→List Int}(h:d<n):(bq n F)[d]?=some ((F d).length,F d):=by simp[bq,h]
theorem iQ{n d:Nat}{F F':Nat→List Int}{x:Int}(h1:F' d=F d++[x]) (h2:∀e,e≠d→F' e=F e):(bq n F).set d ((F d).length+1,F d++[x])=bq n F':=by
 unfold bq;apply xac
 ·simp
 ·intro k k1 k2;rw[List.getElem_set];simp only[List.getElem_map,List.getElem_range];split
  ·rename_i h;subst h;rw[h1];simp
  ·rename_i h;rw[h2 k (fun e=>h e.symm)]
def LH(I:List Int) (L:LL):List Ent:=.live 1 0 (I.map aa)::.live 1 0 (Ff 4 L)::Fg L
def UU(l:List Int) (v:Nat) (I:List Int) (L:LL):List Ent:=Vr l v 0 (LH I L)
theorem uD{I:List Int}{L:LL}:(LH I L).length=L.length+2:=by simp[LH,gk]
theorem Mw{I:List Int}{L:LL}:(LH I L).all (Ent.below ((LH I L).length+2))=true:=by
 rw[uD];unfold LH;simp only[tac,paa];exact⟨Mc _ _ (Fr.l _),Ro (by omega),Wq⟩
theorem dz(t:List D) (a b c:Ent) (n:Nat):∀x,x≤n→Ep 1 3 x ⟨t,[a,b,c,.live 1 0 (maa n (.v (.slice none 0 0)))]⟩=⟨t,a::b::c::.live 1 0 (Ff 4 (maa x (0,[]))++maa (n-x) (.v (.slice none 0 0)))::Fg (maa x (0,[]))⟩
 |0,_=>by simp[Ep,Ff,Fg]
 |x+1,h=>by
  rw[Ep,dz t a b c n x (by omega)];unfold Oz;simp only[List.getElem?_cons_succ,List.getElem?_cons_zero];have hl:(Ff 4 (maa x ((0:Nat),([]:List Int)))).length=x:=by rw[Rn];simp
  rw[List.getElem?_append_right (by omega),hl,cac,List.getElem?_replicate,if_pos (by omega)];simp only[List.set_cons_succ,iac,List.length_cons,gk,Kab,Yaa,St.mk.injEq,true_and,List.cons.injEq,Ent.live.injEq];refine⟨?_,?_⟩
  ·rw[Aad,if_neg (by omega),hl,cac,Jac (n:=x),Lz,jab];congr 1;obtain⟨k,hk⟩:∃k,n-x=k+1:=⟨n-x-1,by omega⟩;rw[hk,List.replicate_succ,iac,show n-(x+1)=k by omega,Kab];simp only[Ff,Yaa,List.nil_append];rw[Eab 4 x]
  ·rw[Jac (n:=x)];simp[Fg]
theorem ML{n:Nat}{F:Nat→List Int}(h:∀d,F d=[]):bq n F=maa n (0,[]):=by
 unfold bq;apply xac
 ·simp
 ·intro k k1 k2;simp[h]
theorem sD{n:Nat}:fa (maa n (.v (.int .i64 0)))=true:=gh.2 fun d hd=>by rw[List.eq_of_mem_replicate hd];rfl
def E1(g:List (List Int)) (y:Nat×List Int×Nat):St:=⟨ds 4 (Pb g::.own 3 0::.own 2 0::.ref 0 0 0 0::ds 19 (Pb g::aa g.length::aa y.1::ds 83 [])),UU y.2.1 y.2.2 (Zu g y.1) (bq g.length (ef g y.1))⟩
def E2(g:List (List Int)) (l:List Int) (v i j:Nat):St:=⟨ds 4 (Pb g::.own 3 0::.own 2 0::.ref 0 0 0 0::aa i::sa (g.getD i [])::ds 17 (Pb g::aa g.length::aa i::ds 9 (sa (g.getD i [])::aa (g.getD i []).length::aa j::ds 71 []))),UU l v (Zu g (i+1)) (bq g.length (Mm g i j))⟩
theorem tY{g:List (List Int)}{y:Nat×List Int×Nat}:Fit 0 (E1 g y):=by
 refine Pt Mw (Bab _) ?_;rw[uD];simp only[Dk,kl,belows,Tm.below,Gaa,Oab,paa,decide_eq_true_eq];exact⟨Da _ _ (Fr.h _),by omega,by omega,by omega,Da _ _ (Fr.h _),Da _ _ (Fr.h _),Da _ _ (Fr.h _)⟩
theorem CX{g:List (List Int)}{l:List Int}{v i j:Nat}:Fit 0 (E2 g l v i j):=by
 refine Pt Mw (Bab _) ?_;rw[uD];simp only[Dk,kl,belows,Tm.below,Gaa,Oab,paa,decide_eq_true_eq];exact⟨Da _ _ (Fr.h _),by omega,by omega,by omega,Da _ _ (Fr.h _),Da _ _ (Fr.h _),Da _ _ (Fr.h _),Da _ _ (Fr.h _),Da _ _ (Fr.h _),Da _ _ (Fr.h _),Da _ _ (Fr.h _),Da _ _ (Fr.h _)⟩
def bt(I:List Int) (L:LL) (w:Nat) (out:List Int):List Ent:=.live 1 0 (I.map aa)::.live 1 0 (Ff 4 L)::(Fg L++[.live 1 w (out.map aa)])
theorem Mz{I:List Int}{L:LL}{w:Nat}{out:List Int}:(bt I L w out).length=L.length+3:=by simp[bt,gk]
theorem br{I:List Int}{L:LL}{w:Nat}{out:List Int}:(bt I L w out).all (Ent.below ((bt I L w out).length+2))=true:=by
 rw[Mz];unfold bt;simp only[tac,List.all_append,List.all_nil,Gaa,paa];exact⟨Mc _ _ (Fr.l _),Ro (by omega),Wq,Mc _ _ (Fr.l _)⟩
abbrev gL(g:List (List Int)):LL:=bq g.length (ef g g.length)
def E3(g:List (List Int)) (y:List Int×Nat×List Int×Nat):St:=⟨ds 4 (Pb g::.own 3 0::.own 2 0::.ref 0 0 0 0::ds 4 (.own ((Fg (gL g)).length+4) y.2.1::ds 100 [])),Vr y.2.2.1 y.2.2.2 0 (bt (YD g y.1) (gL g) y.2.1 y.1)⟩
def E4(g:List (List Int)) (out:List Int) (w d:Nat) (y:Nat×List Int×Nat):St:=⟨ds 4 (Pb g::.own 3 0::.own 2 0::.ref 0 0 0 0::ds 4 (.own ((Fg (gL g)).length+4) (w+1)::aa d::ds 70 (.own (d+4) (ef g g.length d).length::aa (ef g g.length d).length::aa y.1::ds 26 []))),Vr y.2.1 y.2.2 0 (bt (Sr g out d y.1) (gL g) (w+1) (out++[(d:Int)]))⟩
theorem nH{g:List (List Int)}:(gL g).length=g.length:=OD
theorem xX{g:List (List Int)}{y:List Int×Nat×List Int×Nat}:Fit 0 (E3 g y):=by
 refine Pt br (Bab _) ?_;rw[Mz,gk];simp only[Dk,kl,belows,Tm.below,Gaa,Oab,paa,decide_eq_true_eq];exact⟨Da _ _ (Fr.h _),by omega,by omega,by omega,by omega⟩
theorem QY{g:List (List Int)}{out:List Int}{w d:Nat}(hd:d<g.length) {y:Nat×List Int×Nat}:Fit 0 (E4 g out w d y):=by
 refine Pt br (Bab _) ?_;rw[Mz,gk,nH];simp only[Dk,kl,belows,Tm.below,Gaa,Oab,paa,decide_eq_true_eq];exact⟨Da _ _ (Fr.h _),by omega,by omega,by omega,by omega,Da _ _ (Fr.h _),by omega,Da _ _ (Fr.h _),Da _ _ (Fr.h _)⟩
theorem ev_T{t0:GScope}{g:List (List Int)}(hall:Jb t0=some g) (hg:GOk g) :
 Den Tryz.prog 168 [Ea t0] (.tup [sa (Xp g).1,aa (Xp g).2]):=by
 have hgl:=hg.len;refine dk 112 A4 ?_;simp only[A4,Kf.of,zs,ze];refine ss (rg ?_);simp only[zz];refine ss (rg ?_);simp only[zz];refine My (Ip hall) ?_ (by simp only[zg]);simp only[zz];have hm:au 24 ([]:List Int) (g.length:Int) (g.length:Int)=some (maa g.length []):=by
  unfold au;rw[if_pos ⟨by omega,by omega,by omega,by simp;omega⟩];simp
 obtain⟨f2,f3,f4,f5,f6⟩:=WD (e:=sa) hm;have hm2:au 8 (0:Int) (g.length:Int) (g.length:Int)=some (maa g.length 0):=by
  unfold au;rw[if_pos ⟨by omega,by omega,by omega,by simp;omega⟩];simp
 obtain⟨a2,a3,a4,a5,a6⟩:=WD (e:=aa) hm2;refine ss (rg ?_);(try simp only[zz]at f5 f6 a5 a6);(try simp only[zz,f2,f3,f4,f5]);refine ss (rg ?_);(try simp only[zz,a2,a3,a4,a5]);refine ss (rg ?_);simp only[zz];refine ss (ss (rg ?_));simp only[zz];refine tl (S:=⟨ds 4 (Pb g::.own 3 0::.own 2 0::.ref 0 0 0 0::ds 19 (Pb g::aa g.length::aa 0::ds 83 [])),[.live 1 0 [.own 1 0],.live 1 0 [],.live 1 0 (maa g.length (.v (.int .i64 0))),.live 1 0 (maa g.length (.v (.slice none 0 0)))]⟩) (tq [ok 4,ok 3,ok 2,ok 1] (by simp only[zg,Df ox,Df sD])) ?_;refine Qw (S:=1) (id:=3) (x:=g.length) ?_;rw[dz _ _ _ _ _ _ (Nat.le_refl _),cac,List.replicate_zero,Naa];refine T.OE (E1 g) (fun y=>y.1≤g.length∧y.2.1.Perm (TG g y.1)∧Hp y.2.1 y.2.1.length) (fun y=>y.1=g.length∧y.2.1.Perm (TG g y.1)∧Hp y.2.1 y.2.1.length) (fun y=>g.length-y.1) (0,[],0) ⟨Bab _,.refl _,fun k _ h=>absurd h (Nat.not_lt_zero _)⟩ ?_ (fun _ _=>tY) ?_ (fun _=>Us) ?_
 ·unfold E1 UU Vr LH;rw[ML (fun _=>WK),TK,←a6];exact At.same _ _ _ (ra.Gb _)
 ·rintro⟨i,l,v⟩ ⟨h1,h2,h3⟩;dsimp only at h1 h2 h3;have hll:l.length≤1048576:=by rw[h2.length_eq];exact Iab uR (by omega)
  unfold E1 UU Vr LH;dsimp only;refine ss (rg ?_);simp only[zz];refine ss (cd rfl ?_);simp only[zz];refine gP.mk (fun hc=>?_) (fun hc=>?_)
  ·have hi:i<g.length:=by omega
   refine sk ?_;simp only[zz];have g2:g[i]?=some (g.getD i []):=by simp[hi]
   have hmem:g.getD i []∈g:=List.mem_of_getElem? g2;have hgi:=hg.inr _ hmem;have hgn:=hg.nd _ hmem;have hgk:(g.getD i []).length≤g.length:=Kw hgn hgi;have i1:(Zu g i)[i]?=some 0:=by unfold Zu;simp[hi]
   have i2:(Zu g i).length=g.length:=by unfold Zu;simp
   refine ss (bk (ss (rg ?_)));simp only[zz,g2];generalize hgi':g.getD i []=gi at *;refine ss (rg ?_);simp only[zz,g2,i1,i2,hi];refine ss (ss (rg ?_));simp only[zz];have hdi:Mm g i gi.length=ef g (i+1):=funext fun d=>by rw[←hgi'];exact DK.symm
   have hw:ca .i64 ((i:Int)+1)=((i+1:Nat):Int):=by rw[Vo ⟨by omega,by omega⟩];omega
   refine T.jV gi.length (E2 g l v i) ?_ (fun j _=>CX) (fun j hj=>?_) Us ?_
   ·unfold E2 UU Vr LH;rw[show Mm g i 0=ef g i from funext fun d=>YI,hgi',←FK hi,tad,hgi'];exact At.same _ _ _ (by repeat (first|exact ra.Gb _|refine ra.cons (Sub.refl _) ?_|refine ra.cons (Sub.Pa _) ?_))
   ·unfold E2 UU Vr LH;rw[hgi'];refine ss (rg ?_);simp only[zz];refine ss (cd rfl ?_);simp only[zz];refine gP.mk (fun hc=>?_) (fun hc=>?_)
    ·have hjl:j<gi.length:=by omega
     refine sk ?_;simp only[zz];obtain⟨d,hd,hdn⟩:∃d:Nat,gi[j]=(d:Int)∧d<g.length:=by
      have:=hgi gi[j] (raa hjl);exact⟨gi[j].toNat,by omega,by omega⟩
     have g3:gi[j]?=some (d:Int):=by rw[iaa hjl,hd]
     have hL:(bq g.length (Mm g i j)).length=g.length:=OD;have hp:(bq g.length (Mm g i j))[d]?=some ((Mm g i j d).length,Mm g i j d):=cE hdn;have hLs:bq g.length (Mm g i (j+1))=(bq g.length (Mm g i j)).set d ((Mm g i j d).length+1,Mm g i j d++[(i:Int)]):=by
      refine(iQ ?_ fun e he=>?_).symm
      ·rw[oC (by rw[hgi'];exact hjl) (by rw[hgi'];exact hgn),if_pos (by simp only[hgi',hd])]
      ·rw[oC (by rw[hgi'];exact hjl) (by rw[hgi'];exact hgn),if_neg (by simp only[hgi',hd];omega)]
     have hpb:(Mm g i j d).length≤i+1:=GL;generalize hQ:(Mm g i j d).length=q at *;generalize hF:Mm g i j d=F at *;generalize hLL:bq g.length (Mm g i j)=L at hL hLs hp⊢;obtain⟨E,hE⟩:∃E,E=Fg L:=⟨_,rfl⟩;have hEl:E.length=L.length:=by rw[hE,gk]
     rw[←hE];have hol:(Ff 4 L).length=g.length:=by rw[Rn,hL]
     have hEd:d<E.length:=by omega
     have k1:(Ff 4 L)[d]?=some (.own (d+4) q):=by rw[pv,hp,Vab,Eab]
     have k2:∀y,(E++[y])[d]?=some (.live 1 q (F.map aa)):=fun y=>by
      rw[Iaa hEd,hE];unfold Fg;rw[Dab,hp];rfl
     have k3:∀y e,(E++[y]).set d e=E.set d e++[y]:=fun y e=>by rw[Aad,if_pos hEd]
     have k5:(F.length+1)*8≤2 ^ 47:=by omega
     have k6:rI (E.length+4) (d+4)=true:=QC (by omega);refine ss (bk (ss (rg ?_)));simp only[zz,g3];refine rg ?_;simp only[zz,hol,hdn,k1,k2,k3,k5,k6,wab,Gl];have hw2:ca .i64 ((j:Int)+1)=((j+1:Nat):Int):=by rw[Vo ⟨by omega,by omega⟩];omega
     refine rg ?_;simp only[zz,Fo,hw2];refine⟨hjl,?_⟩;have e1:(Ff 4 L).set d (.own (d+4) (q+1))=Ff 4 (bq g.length (Mm g i (j+1))):=by
      rw[hLs,←sz,Eab 4]
     have e2:E.set d (.live 1 (q+1) (F.map aa++[.v (.int .i64 i)]))=Fg (bq g.length (Mm g i (j+1))):=by
      rw[hLs,hE];unfold Fg;rw[tad,Cab];rfl
     rw[e1,e2,←Yaa,←Yaa,←Yaa,←Yaa];exact At.mk _ _ _ _ (by repeat (first|exact ra.Gb _|refine ra.cons (Sub.refl _) ?_|refine ra.cons (Sub.Pa _) ?_))
    ·refine xt ?_;simp only[zz,uy];have hj:j=gi.length:=by omega
     subst hj;refine⟨rfl,?_⟩;exact At.same _ _ _ (by repeat (first|exact ra.Gb _|refine ra.cons (Sub.refl _) ?_|refine ra.cons (Sub.Pa _) ?_))
   ·unfold E2 UU Vr LH;rw[hgi',hdi];simp only[zz];refine ss (rg ?_);simp only[zz];refine cd rfl ?_;by_cases hge:gi=[]
    ·have hz:((gi.length:Int)==0)=true:=by rw[hge];rfl
     have hrd:TG g (i+1)=TG g i++[(i:Int)]:=by rw[JF,hgi',if_pos hge]
     simp only[zz,hz];refine rg ?_;simp only[zz];refine jq (OI (l:=l) (x:=(i:Int)) (v:=v) (u:=0) (R:=LH (Zu g (i+1)) (bq g.length (ef g (i+1)))) Mw (by omega) h3) ?_;rintro d m' ⟨rfl,l',h4,h5,rfl⟩;unfold Vr LH;simp only[zz];refine rg ?_;simp only[zz,hw,Bk];refine⟨(i+1,l',v+1),⟨by dsimp only;omega,?_,h5⟩,by dsimp only;omega,?_⟩
     ·dsimp only;rw[hrd];exact h4.trans (mae _ h2)
     ·exact At.same _ _ _ (by repeat (first|exact ra.Gb _|refine ra.cons (Sub.refl _) ?_|refine ra.cons (Sub.Pa _) ?_))
    ·have hz:((gi.length:Int)==0)=false:=by
      rw[beq_eq_false_iff_ne];intro h;exact hge (Eaa (by omega))
     have hrd:TG g (i+1)=TG g i:=by rw[JF,hgi',if_neg hge]
     simp only[zz,hz];refine sk ?_;simp only[zz];refine rg ?_;simp only[zz,hw,Bk];refine⟨(i+1,l,v),⟨by dsimp only;omega,?_,h3⟩,by dsimp only;omega,?_⟩
     ·dsimp only;rw[hrd];exact h2
     ·exact At.same _ _ _ (by repeat (first|exact ra.Gb _|refine ra.cons (Sub.refl _) ?_|refine ra.cons (Sub.Pa _) ?_))
  ·refine xt ?_;simp only[zz,qm];have hi:i=g.length:=by omega
   subst hi;exact⟨(g.length,l,v),⟨rfl,h2,h3⟩,At.same _ _ _ (by repeat (first|exact ra.Gb _|refine ra.cons (Sub.refl _) ?_|refine ra.cons (Sub.Pa _) ?_))⟩
 ·rintro⟨i,l,v⟩ ⟨h1,h2,h3⟩;dsimp only at h1 h2 h3;subst h1;unfold E1 UU Vr LH;dsimp only;simp only[zz];refine ss (rg ?_);simp only[zz];refine T.ax 12 1 rfl ?_;simp only[zz];refine ss ?_;refine T.OE (E3 g) (fun y=>J2 g y.1 y.2.2.1∧Hp y.2.2.1 y.2.2.1.length) (fun y=>J2 g y.1 []) (fun y=>g.length-y.1.length) ([],0,l,v) ⟨j2_0 h2,h3⟩ ?_ (fun _ _=>xX) ?_ (fun _=>Us) ?_
  ·unfold E3 Vr bt;dsimp only;rw[←sW];exact At.same _ _ _ (by repeat (first|exact ra.Gb _|refine ra.cons (Sub.refl _) ?_|refine ra.cons (Sub.Pa _) ?_))
  ·rintro⟨out,w,l,v⟩ ⟨hj,h3⟩;dsimp only at hj h3;unfold E3 Vr bt;dsimp only;have hll:l.length≤1048576:=by
    rw[hj.perm.length_eq];unfold oI;rw[List.length_map];exact Iab (Maa _ _) (by simpa using hgl)
   refine ss (ss (rg ?_));simp only[zz];refine Ub (wL (l:=l) (v:=v) (u:=0)) ?_;simp only[zz];refine cd rfl ?_;simp only[zz];refine gP.mk (fun hc=>?_) (fun hc=>?_)
   ·refine sk ?_;simp only[zz];obtain⟨n,hn⟩:∃n,l.length=n+1:=⟨l.length-1,by omega⟩;refine bk (ss (rg ?_));simp only[zz];refine jq (MV (l:=l) (n:=n) (v:=v) (u:=0) (R:=bt (YD g out) (gL g) w out) br (by omega) hn h3) ?_;rintro _ _ ⟨x,l',rfl,h4,h5,h6,rfl⟩;obtain⟨d,rfl,hdl,hik,hol,hfin⟩:=kV hg hj h4 h5;unfold Vr bt;simp only[zz];have c0:∀o:Ent,(Fg (gL g)++[o])[(Fg (gL g)).length]?=some o:=fun o=>wab;have c1:∀o z:Ent,(Fg (gL g)++[o]++[z])[(Fg (gL g)).length]?=some o:=fun o z=>by simp
    have c2:∀o z e:Ent,(Fg (gL g)++[o]++[z]).set (Fg (gL g)).length e=Fg (gL g)++[e]++[z]:=fun o z e=>by simp[Aad]
    have c3:∀o z:Ent,(Fg (gL g)++[o]++[z])[(Fg (gL g)).length+1]?=some z:=fun o z=>by simp
    have c5:rI ((Fg (gL g)).length+1+4) ((Fg (gL g)).length+4)=true:=QC (by omega);have hEl:(Fg (gL g)).length=g.length:=by rw[gk,nH]
    have hF:(gL g)[d]?=some ((ef g g.length d).length,ef g g.length d):=cE hdl;have hE1:(Fg (gL g))[d]?=some (.live 1 (ef g g.length d).length ((ef g g.length d).map aa)):=by
     unfold Fg;rw[Dab,hF];rfl
    have c4:∀o z:Ent,(Fg (gL g)++[o]++[z])[d]?=some (.live 1 (ef g g.length d).length ((ef g g.length d).map aa)):=fun o z=>by
     rw[jab,Iaa (by omega)];exact hE1
    have c6:∀o:Ent,(Fg (gL g)++[o])[d]?=some (.live 1 (ef g g.length d).length ((ef g g.length d).map aa)):=fun o=>by
     rw[Iaa (by omega)];exact hE1
    have o1:(Ff 4 (gL g))[d]?=some (.own (d+4) (ef g g.length d).length):=by rw[pv,hF,Vab,Eab]
    have o2:(Ff 4 (gL g)).length=g.length:=by rw[Rn,nH]
    have b1:(out.length+1)*8≤2 ^ 47:=by omega
    have hDn:(ef g g.length d).length≤g.length:=MA;have hpl:=h4.length_eq;refine ss (rg ?_);simp only[zz,c0,c1,c2,c3,c5,b1];refine ss (rg ?_);simp only[zz,c1,c2,c4,o1,o2,hdl];refine T.OE (E4 g out w d) (fun y=>y.1≤(ef g g.length d).length∧y.2.1.Perm (l'++ew g out d y.1)∧Hp y.2.1 y.2.1.length) (fun y=>y.1=(ef g g.length d).length∧y.2.1.Perm (l'++ew g out d y.1)∧Hp y.2.1 y.2.1.length) (fun y=>(ef g g.length d).length-y.1) (0,l',v+1) ⟨Bab _,by dsimp only;rw[vW,Naa],h6⟩ ?_ (fun _ _=>QY hdl) ?_ (fun _=>XG FG) ?_
    ·unfold E4 Vr bt;dsimp only;rw[WW,Cab,←Yaa,←Yaa,←Yaa,←Yaa];exact At.mk _ _ _ _ (by repeat (first|exact ra.Gb _|refine ra.cons (Sub.refl _) ?_|refine ra.cons (Sub.Pa _) ?_))
    ·rintro⟨k,l1,v1⟩ ⟨k1,k2,k3⟩;dsimp only at k1 k2 k3;have hl1:l1.length≤1048576+1048576:=by
      rw[k2.length_eq,Haa];have:=wO (g:=g) (out:=out) (d:=d) (k:=k);simp at hpl;omega
     unfold E4 Vr bt;dsimp only;refine ss (rg ?_);simp only[zz];refine ss (cd rfl ?_);simp only[zz];refine gP.mk (fun hc=>?_) (fun hc=>?_)
     ·have hk:k<(ef g g.length d).length:=by omega
      refine sk ?_;simp only[zz];obtain⟨e,he,hel,hem⟩:=Js.1 (raa hk);have g3:(ef g g.length d)[k]?=some (e:Int):=by rw[iaa hk,he]
      have i1:=AM (out:=out) hk he hel;have i2:(Sr g out d k).length=g.length:=by unfold Sr;simp
      have i3:(List.map aa (Sr g out d k)).set e (.v (.int .i64 (Yx g out e-1)))=List.map aa (Sr g out d (k+1)):=by
       rw[←AB hk he,tad];rfl
      have i4:(Sr g out d (k+1))[e]?=some (Yx g out e-1):=by
       rw[←AB hk he,List.getElem?_set_self (by omega)]
      have i5:(Sr g out d (k+1)).length=g.length:=by unfold Sr;simp
      have hcn:0≤Yx g out e∧Yx g out e≤1048576:=by
       unfold Yx;have h1:=Maa (fun d=>!out.contains d) (g.getD e []);have h2:=Kw (hg.nd _ (nW hel)) (hg.inr _ (nW hel));omega
      have hwc:ca .i64 (Yx g out e-1)=Yx g out e-1:=Vo ⟨by omega,by omega⟩;have hwk:ca .i64 ((k:Int)+1)=((k+1:Nat):Int):=by rw[Vo ⟨by omega,by omega⟩];omega
      refine ss (bk (ss (rg ?_)));simp only[zz,c6,hk,g3];refine ss (rg ?_);simp only[zz,i1,i2,hel,hwc,i3];refine ss (rg ?_);simp only[zz,i4,i5,hel];refine cd rfl ?_;by_cases hc1:Yx g out e=1
      ·have hz:((Yx g out e-1)==0)=true:=by rw[hc1];rfl
       simp only[zz,hz];refine rg ?_;simp only[zz];refine jq (OI (l:=l1) (x:=(e:Int)) (v:=v1) (u:=0) (R:=bt (Sr g out d (k+1)) (gL g) (w+1) (out++[(d:Int)])) br (by omega) k3) ?_;rintro _ _ ⟨rfl,l2,h7,h8,rfl⟩;unfold Vr bt;simp only[zz];refine rg ?_;simp only[zz,hwk,Bk];refine⟨(k+1,l2,v1+1),⟨by dsimp only;omega,?_,h8⟩,by dsimp only;omega,?_⟩
       ·dsimp only;rw[zB hk he,if_pos hc1,←jab];exact h7.trans (mae _ k2)
       ·exact At.same _ _ _ (by repeat (first|exact ra.Gb _|refine ra.cons (Sub.refl _) ?_|refine ra.cons (Sub.Pa _) ?_))
      ·have hz:((Yx g out e-1)==0)=false:=by
        rw[beq_eq_false_iff_ne];omega
       simp only[zz,hz];refine sk ?_;simp only[zz];refine rg ?_;simp only[zz,hwk,Bk];refine⟨(k+1,l1,v1),⟨by dsimp only;omega,?_,k3⟩,by dsimp only;omega,?_⟩
       ·dsimp only;rw[zB hk he,if_neg hc1];exact k2
       ·exact At.same _ _ _ (by repeat (first|exact ra.Gb _|refine ra.cons (Sub.refl _) ?_|refine ra.cons (Sub.Pa _) ?_))
     ·refine xt ?_;simp only[zz,qm];have hk:k=(ef g g.length d).length:=by omega
      subst hk;exact⟨((ef g g.length d).length,l1,v1),⟨rfl,k2,k3⟩,At.same _ _ _ (by repeat (first|exact ra.Gb _|refine ra.cons (Sub.refl _) ?_|refine ra.cons (Sub.Pa _) ?_))⟩
    ·rintro⟨k,l1,v1⟩ ⟨k1,k2,k3⟩;dsimp only at k1 k2 k3;subst k1;unfold E4 Vr bt;dsimp only;rw[hik];simp only[zz,Bk];refine⟨(out++[(d:Int)],w+1,l1,v1),⟨hfin l1 k2,k3⟩,by dsimp only;rw[Haa,List.length_singleton];omega,?_⟩;exact At.same _ _ _ (by repeat (first|exact ra.Gb _|refine ra.cons (Sub.refl _) ?_|refine ra.cons (Sub.Pa _) ?_))
   ·refine xt ?_;simp only[zz,qm];have hl0:l=[]:=Eaa (by omega);subst hl0;exact⟨(out,w,[],v),hj,At.same _ _ _ (by repeat (first|exact ra.Gb _|refine ra.cons (Sub.refl _) ?_|refine ra.cons (Sub.Pa _) ?_))⟩
  ·rintro⟨out,w,l,v⟩ hj;dsimp only at hj;have he:=FX hj;unfold E3 Vr bt;dsimp only;simp only[zz];have c0:∀o:Ent,(Fg (gL g)++[o])[(Fg (gL g)).length]?=some o:=fun o=>wab;refine ss (ss (rg ?_));simp only[zz,c0];refine cd rfl ?_;by_cases hlt:out.length<g.length
   ·have hz:decide ((out.length:Int)<(g.length:Int))=true:=decide_eq_true (by omega);rw[if_pos hlt]at he;rw[he];simp only[zz,hz];refine ss (rg ?_);simp only[zz];exact rt (er (by simp only[zz,zr];exact fq (by simp only[zg])))
   ·have hz:decide ((out.length:Int)<(g.length:Int))=false:=decide_eq_false (by omega);rw[if_neg hlt]at he;rw[he];simp only[zz,hz];refine sk ?_;simp only[zz];refine ss (rg ?_);simp only[zz];exact rt (er (by simp only[zz,zr];exact fq (by simp only[zg,zz,c0])))
theorem tW{n:Int}{l:List Int}{x:Int}(h:x∈cy n l):0≤x∧x<n:=by
 unfold cy at h;have:=(List.mem_filter.1 h).2;simpa using this
theorem lS{s:GScope}(h:s.Defs.length≤1048576):GOk (Bm s):=by
 have hl:(Bm s).length=s.Defs.length:=by unfold Bm;simp
 refine⟨by omega,fun l hm e he=>?_,fun l hm=>?_⟩
 ·unfold Bm at hm;obtain⟨d,-,rfl⟩:=Tab.1 hm;rw[hl];rw[(Rf _).2.2,List.mem_flatten]at he;obtain⟨q,hq,he⟩:=he;obtain⟨r,-,rfl⟩:=Tab.1 hq;rcases List.mem_append.1 he with h1|h1<;>exact tW h1
 ·unfold Bm at hm;obtain⟨d,-,rfl⟩:=Tab.1 hm;exact UB (Rf _).1
theorem Mq{t0:GScope}{r:List Int×Int}(h:Cd t0=some r):Den Tryz.prog 168 [Ea t0] (.tup [sa r.1,aa r.2]):=by
 unfold Cd at h
 cases hall:Jb t0 with
 |none=>rw[hall]at h;cases h
 |some g=>
  rw[hall]at h;simp only[Option.bind_some,zaa]at h;subst h;have hall':=hall;unfold Jb at hall';split at hall'
  ·rename_i hc;have:=Mk ⟨hc.1,hc.2.1,hc.2.2⟩;rw[hall]at this;obtain rfl:=Uaa this;exact ev_T hall (lS hc.1)
  ·cases hall'
instance {t0 r}:Con (Cd t0=some r) (Den Tryz.prog 168 [Ea t0] (.tup [sa r.1,aa r.2])):=⟨Mq⟩
end Go.Proofs.Dev
