/-
  Contracts of the functions: each answers as its plain partial function says.
-/
import Derived.Test.YtfanhhhgcabpnaaGreatDoorK
import Derived.Test.YtfanhhhgcabpnaaGreatDoorG
import Derived.Test.YtfanhhhgcabpnaaGreatDoorPD
import Derived.Test.YtfanhhhgcabpnaaGreatDoorL1
import Derived.Test.YtfanhhhgcabpnaaGreatDoorQ4
import Derived.Test.YtfanhhhgcabpnaaGreatDoorQ5
import Derived.Test.YtfanhhhgcabpnaaGreatDoorQ6
import Derived.Test.YtfanhhhgcabpnaaGreatDoorQ7
open Bool renaming and_eq_true→xn,and_true→Nn,true_and→Kp
open Eq renaming trans→rn
open List renaming all_cons→Aq,all_eq_true→qo,append_assoc→Mo,append_nil→bo,cons_append→xo,eq_of_mem_replicate→Ir,getElem?_concat_length→kp,getElem?_cons_succ→qp,getElem?_eq_getElem→pn,getElem?_eq_none→Rn,getElem?_map→Qo,getElem_mem→On,length_append→uo,length_cons→jo,length_drop→Gp,length_replicate→Mp,map_append→Pp,mem_map→Yp,replicate→yn,replicate_succ'→kr,set_append→Ps,set_cons_succ→Iq,set_cons_zero→Jq,take_add_one→Wo,take_length→Ho,take_succ_cons→Zo,take_zero→Er
open List.cons renaming injEq→Ap
open Nat renaming add_comm→Yo,le_refl→En,mul_le_mul_left→ts,sub_self→Vq,zero_le→Jp
open Option renaming map_eq_map→Fs,map_some→lp,toList_some→Kq
open Option.some renaming inj→eo,injEq→An
set_option linter.all false
set_option maxHeartbeats 1000000
set_option maxRecDepth 10000
namespace Go.Proofs.Dev
open Go Go.Tm
theorem wa{t0 t1 r} (h:deps_definitionsOf t0 t1=some r):Den Tryz.prog 267 [e_GRule t0,e_i64 t1] (e_s_i64 r):=by
 refine dk 65 Ge ?_
 simp only[Ge,Kf.of,zs,ze]
 unfold deps_definitionsOf at h
 exact pg (And.intro @deps_definitionsOf_L2.eq_1 @deps_definitionsOf_L3.eq_1) (.l 2 1 (fun(q:((List Int) × Int))=>⟨[.k 1,.p 1,.k 3,.s (.own 0 0),.k 4,.p 1,.k 19,.p 2,.s (e_i64 q.2),.p 34],[.n 1 ((q.1.map e_i64))]⟩) (fun(b14:(List Int))=>⟨[.k 1,.p 1,.k 3,.s (.own 0 0),.k 4,.p 1],[.n 1 ((b14.map e_i64))]⟩) [on 1] (.b (.j 1 (fun(j11:(List Int))=>⟨[.k 1,.p 32],[.c 0 ((j11.map e_i64))]⟩) (.z 1 (.j 1 (fun(j8:Bool)=>⟨[.k 1,.p 32,.k 9,.s (e_bool j8),.p 24],[.o 0]⟩) (.b (.t [ok 0]) (.t [ok 0])) (.b (.t [ov 0 1]) (.t [ok 0])))) (.t [ok 0])) (.t [ok 0])) (.l 2 1 (fun(q:((List Int) × Int))=>⟨[.k 1,.p 9,.k 38,.p 2,.s (e_i64 q.2),.p 16],[.c 0 ((q.1.map e_i64))]⟩) (fun(b26:(List Int))=>⟨[.k 5,.p 5],[.c 0 ((b26.map e_i64))]⟩) [ok 0] (.b (.j 1 (fun(j23:(List Int))=>⟨[.k 1,.p 50],[.c 0 ((j23.map e_i64))]⟩) (.z 1 (.j 1 (fun(j20:Bool)=>⟨[.k 1,.p 50,.k 9,.s (e_bool j20),.p 6],[.o 0]⟩) (.b (.t [ok 0]) (.t [ok 0])) (.b (.t [ov 0 1]) (.t [ok 0])))) (.t [ok 0])) (.t [ok 0])) .o))
instance {t0 t1 r}:Con (deps_definitionsOf t0 t1=some r) (Den Tryz.prog 267 [e_GRule t0,e_i64 t1] (e_s_i64 r)):=⟨wa⟩
abbrev LL:=List (Nat×List Int)
def owns:Nat→LL→List D
 |_,[]=>[]
 |k,p::l=>.own k p.1::owns (k+1) l
def Ta(L:LL):List Ent:=L.map fun p=>.live 1 p.1 (p.2.map e_i64)
def cf(n:Nat) (r:GRule):List Int:=inR n (dfl isDef r.Guard)++inR n (dfl isDef r.Value)
def sd(n:Nat) (L:LL) (r:GRule):LL:=if 0≤r.Def∧r.Def<n then L.modify r.Def.toNat (fun p=>(p.1+1,p.2++cf n r))else L
def sL(n:Nat) (rs:List GRule) (i:Nat):LL:=(rs.take i).foldl (sd n) (yn n (0,[]))
theorem Ua:∀{L:LL}{k:Nat},(owns k L).length=L.length
 |[],_=>rfl
 |p::l,k=>by simp only[owns,jo,Ua (L:=l)]
theorem Rb:∀{L M:LL}{k:Nat},owns k (L++M)=owns k L++owns (k+L.length) M
 |[],M,k=>by simp[owns]
 |p::l,M,k=>by
  simp only[xo,owns,Rb (L:=l),jo];rw[show k+1+l.length=k+(l.length+1) by omega]
theorem Sb:∀{L:LL}{k d:Nat},(owns k L)[d]?=L[d]?.map (fun p=>.own (k+d) p.1)
 |[],_,_=>by simp[owns]
 |p::l,k,0=>by simp[owns]
 |p::l,k,d+1=>by
  simp only[owns,qp,Sb (L:=l)];rw[show k+1+d=k+(d+1) by omega]
theorem Tb:∀{L:LL}{k d:Nat}{p:Nat×List Int},(owns k L).set d (.own (k+d) p.1)=owns k (L.set d p)
 |[],_,_,_=>by simp[owns]
 |q::l,k,0,p=>by simp[owns]
 |q::l,k,d+1,p=>by
  simp only[owns,Iq];rw[show k+(d+1)=k+1+d by omega,Tb (L:=l)]
theorem Ya:∀{L:LL}{k j:Nat},k+L.length≤j→belows j (owns k L)=true
 |[],_,_,_=>rfl
 |p::l,k,j,h=>by
  simp only[jo]at h;simp only[owns,belows,Tm.below,xn,decide_eq_true_eq];exact⟨by omega,Ya (by omega)⟩
theorem ab{L:LL}:(Ta L).length=L.length:=by simp[Ta]
theorem ub{L:LL}{j:Nat}:(Ta L).all (Ent.below j)=true:=by
 rw[qo];intro e he;obtain⟨p,-,rfl⟩:=Yp.1 he;exact belows_free _ _ (Fr.l _)
theorem Ye{n:Nat}{L:LL}{r:GRule}:(sd n L r).length=L.length:=by
 unfold sd;split<;>simp
theorem Bb{n:Nat}:∀{rs:List GRule}{L:LL},(rs.foldl (sd n) L).length=L.length
 |[],_=>rfl
 |r::rs,L=>by simp only[List.foldl_cons,Bb (rs:=rs),Ye]
theorem kc{n:Nat}{rs:List GRule}{i:Nat}:(sL n rs i).length=n:=by unfold sL;rw[Bb];simp
theorem Jb{n:Nat}{rs:List GRule}{i:Nat}(h:i<rs.length):sL n rs (i+1)=sd n (sL n rs i) rs[i]:=by
 unfold sL;rw[Wo,pn h,Kq,List.foldl_append];rfl
theorem qc{n:Int}{l:List Int}:(inR n l).length≤l.length:=List.length_filter_le _ _
theorem pc{n:Nat}{r:GRule}(h:r.Guard.length≤1048576∧r.Value.length≤1048576):(cf n r).length≤2097152:=by
 unfold cf;have h1:=qc (n:=n) (l:=dfl isDef r.Guard);have h2:=qc (n:=n) (l:=dfl isDef r.Value);have h3:=dfl_len (p:=isDef) (e:=r.Guard);have h4:=dfl_len (p:=isDef) (e:=r.Value);simp only[uo];omega
theorem Vb{n:Nat}{rs:List GRule}(hg:∀r∈rs,r.Guard.length≤1048576∧r.Value.length≤1048576):∀{i:Nat},i≤rs.length→∀p∈sL n rs i,p.2.length≤2097152*i:=by
 intro i
 induction i with
 |zero=>
  intro _ p hp;simp only[sL,Er,List.foldl_nil,List.mem_replicate]at hp;rw[hp.2];simp
 |succ i ih=>
  intro h p hp;have ih:=ih (Nat.le_of_succ_le h);have hD:=pc (n:=n) (hg rs[i] (On h));have hs:2097152*(i+1)=2097152*i+2097152:=Nat.mul_succ _ _;rw[Jb h]at hp;unfold sd at hp;split at hp
  ·obtain⟨d,hd,rfl⟩:=List.getElem_of_mem hp;have hd':d<(sL n rs i).length:=by simpa using hd
   have h1:=ih _ (On hd');rw[List.getElem_modify];split
   ·simp only[uo];omega
   ·omega
  ·have:=ih p hp;omega
theorem Ab(t:List D) (n:Nat):∀x,x≤n→adoptXs 1 0 x ⟨t,[.live 1 0 (yn n (.v (.slice none 0 0)))]⟩=⟨t,.live 1 0 (owns 1 (yn x (0,[]))++yn (n-x) (.v (.slice none 0 0)))::Ta (yn x (0,[]))⟩
 |0,_=>by simp[adoptXs,owns,Ta]
 |x+1,h=>by
  rw[adoptXs,Ab t n x (by omega)];unfold adoptX;simp only[List.getElem?_cons_zero];have hl:(owns 1 (yn x ((0:Nat),([]:List Int)))).length=x:=by rw[Ua];simp
  rw[List.getElem?_append_right (by omega),hl,Vq,List.getElem?_replicate,if_pos (by omega)];simp only[Jq,jo,ab,Mp,xo,St.mk.injEq,true_and,Ap,Ent.live.injEq];refine⟨?_,?_⟩
  ·rw[Ps,if_neg (by omega),hl,Vq,kr (n:=x),Rb,Mo];congr 1;obtain⟨k,hk⟩:∃k,n-x=k+1:=⟨n-x-1,by omega⟩;rw[hk,List.replicate_succ,Jq,show n-(x+1)=k by omega,Mp];simp only[owns,xo,List.nil_append];rw[Yo 1 x]
  ·rw[kr (n:=x)];simp[Ta]
theorem Mb{n:Nat}:idfrees (yn n (.v (.slice none 0 0)))=true:=idfrees_iff.2 fun d hd=>by rw[Ir hd];rfl
def S1(n:Nat) (rs:List GRule) (i:Nat):St:=⟨ds 3 (.own 0 0::ds 9 (e_s_GRule rs::e_i64 (rs.length:Int)::e_i64 (i:Int)::ds 42 [])),.live 1 0 (owns 1 (sL n rs i))::Ta (sL n rs i)⟩
theorem Hc{n:Nat}{rs:List GRule}{i:Nat}:S1 n rs i=⟨ds 3 (.own 0 0::ds 9 (e_s_GRule rs::e_i64 (rs.length:Int)::e_i64 (i:Int)::ds 42 [])),.live 1 0 (owns 1 (sL n rs i))::Ta (sL n rs i)⟩:=rn rfl rfl
theorem Ba{α:Type}{l:List α}{x y:α}:(l++[x]).set l.length y=l++[y]:=by simp
theorem kd:∀{a b:Nat},a≠b→neN a b=true
 |0,0,h=>(h rfl).elim
 |0,_+1,_=>rfl
 |_+1,0,_=>rfl
 |a+1,b+1,h=>kd (a:=a) (b:=b) fun e=>h (by rw[e])
theorem wb{α:Type}{f:α→α}:∀{l:List α}{d:Nat}{p:α},l[d]?=some p→l.modify d f=l.set d (f p)
 |[],_,_,h=>by simp at h
 |a::l,0,p,h=>by simp at h;subst h;simp
 |a::l,d+1,p,h=>by simp only[List.modify_succ_cons,Iq];rw[wb (by simpa using h)]
def A2(L:LL) (j:Nat):List D:=(L.take j).map fun p=>e_s_i64 (dsort p.2)
def S2(n:Nat) (L:LL) (j:Nat):St:=⟨ds 3 (.own 0 0::ds 40 (.own 0 0::e_i64 (n:Int)::e_i64 (j:Int)::ds 11 [])),.live 1 0 (A2 L j++owns (1+j) (L.drop j))::(yn j .gone++Ta (L.drop j))⟩
theorem ud{n:Nat}{L:LL}{j:Nat}:S2 n L j=⟨ds 3 (.own 0 0::ds 40 (.own 0 0::e_i64 (n:Int)::e_i64 (j:Int)::ds 11 [])),.live 1 0 (A2 L j++owns (1+j) (L.drop j))::(yn j .gone++Ta (L.drop j))⟩:=rn rfl rfl
theorem td{L:LL}{j:Nat}:idfrees (A2 L j)=true:=by
 refine idfrees_iff.2 fun d hd=>?_;obtain⟨p,-,rfl⟩:=Yp.1 hd;exact Fr.h _
theorem qf{n:Nat}{L:LL}{j:Nat}(h:L.length=n) (hj:j≤n):Fit 0 (S2 n L j):=by
 refine⟨Jp _,?_,?_⟩
 ·simp only[S2,ds_succ,ds_zero,belows,Tm.below,jo,Nn,Kp,xn,decide_eq_true_eq];exact⟨by omega,by omega,below_free _ _ (Fr.h _),below_free _ _ (Fr.h _)⟩
 ·simp only[S2,Aq,List.all_append,xn];refine⟨?_,?_,ub⟩
  ·refine belowsA (belows_free _ _ td) (Ya ?_);simp only[jo,uo,Mp,ab,Gp];omega
  ·rw[qo];intro e he;rw[Ir he];rfl
theorem qb{α:Type}{A B:List α}{x:α}{j:Nat}(h:A.length=j):(A++x::B)[j]?=some x:=by subst h;simp
theorem sb{α:Type}{A B:List α}{x y:α}{j:Nat}(h:A.length=j):(A++x::B).set j y=A++y::B:=by subst h;simp
theorem pf{n:Nat}{rs:List GRule}{i:Nat}:Fit 0 (S1 n rs i):=by
 refine⟨Jp _,?_,?_⟩
 ·simp only[S1,ds_succ,ds_zero,belows,Tm.below,jo,Nn,Kp,xn,decide_eq_true_eq];exact⟨by omega,below_free _ _ (Fr.h _),below_free _ _ (Fr.h _),below_free _ _ (Fr.h _)⟩
 ·simp only[S1,Aq,xn];refine⟨?_,ub⟩;exact Ya (by simp only[jo,ab];omega)
theorem tf{t0:GScope}(hd:t0.Defs.length≤1048576) (hr:t0.Rules.length≤1048576) (hg:∀r∈t0.Rules,r.Guard.length≤1048576∧r.Value.length≤1048576) :
 Den Tryz.prog 233 [e_GScope t0] (e_s_s_i64 ((sL t0.Defs.length t0.Rules t0.Rules.length).map fun p=>dsort p.2)):=by
 refine dk 57 Ce ?_;simp only[Ce,Kf.of,zs,ze];refine ss (rg ?_);have hm:mks 24 ([]:List Int) (t0.Defs.length:Int) (t0.Defs.length:Int)=some (yn t0.Defs.length []):=by
  unfold mks;rw[if_pos ⟨by omega,by omega,by omega,by simp;omega⟩];simp
 obtain⟨f2,f3,f4,f5,f6⟩:=mks_f (e:=e_s_i64) hm;(try simp only[zz]);refine ss (rg ?_);(try simp only[zz]at f5 f6);(try simp only[zz,f2,f3,f4,f5]);refine ss (ss (rg ?_));(try simp only[zz,f2,f3,f4,f5]);refine tl (S:=⟨ds 3 (.own 0 0::ds 9 (e_s_GRule t0.Rules::e_i64 (t0.Rules.length:Int)::e_i64 0::ds 42 [])),[.live 1 0 (yn t0.Defs.length (.v (.slice none 0 0)))]⟩) (tq [ok 1] (by simp only[zg,sqS_same Mb])) ?_;refine adoptXs_T (S:=1) (id:=0) (x:=t0.Defs.length) ?_;rw[Ab _ _ _ (En _),Vq,List.replicate_zero,bo];refine T.blkI t0.Rules.length (S1 t0.Defs.length t0.Rules) (At.same _ _ _ (Subs.refl' _)) (fun i _=>pf) (fun i hi=>?_) stab_S ?_
 ·rw[Hc];refine ss (rg ?_);simp only[zz];refine ss (cd rfl ?_);simp only[zz];refine gP.mk (fun hc=>?_) (fun hc=>?_)
  ·have hi:i<t0.Rules.length:=by omega
   refine sk ?_;simp only[zz];obtain⟨r,hr1⟩:∃r,r=t0.Rules[i]:=⟨_,rfl⟩;have hidx:idx t0.Rules (i:Int)=some r:=by rw[hr1];simp[idx,hi]
   have g2:t0.Rules[i]?=some r:=by rw[hr1];exact pn hi
   have hrg:=hg r (by rw[hr1];exact On hi);have hL:(sL t0.Defs.length t0.Rules i).length=t0.Defs.length:=kc;have hLs:sL t0.Defs.length t0.Rules (i+1)=sd t0.Defs.length (sL t0.Defs.length t0.Rules i) r:=by rw[Jb hi,hr1]
   have hLb:=Vb (n:=t0.Defs.length) hg (i:=i) (by omega);generalize hLL:sL t0.Defs.length t0.Rules i=L at hL hLs hLb⊢;obtain⟨E,hE⟩:∃E,E=Ta L:=⟨_,rfl⟩;have hEl:E.length=L.length:=by rw[hE,ab]
   rw[←hE];refine ss (bk (ss (rg ?_)));simp only[zz,g2,kp,Ba];refine ss (rg ?_);have hol:(owns 1 L).length=t0.Defs.length:=by rw[Ua,hL]
   have hw:wrapF .i64 ((i:Int)+1)=((i+1:Nat):Int):=by rw[wrapI ⟨by omega,by omega⟩];omega
   have skipped:¬(0≤r.Def∧r.Def<(t0.Defs.length:Int))→sL t0.Defs.length t0.Rules (i+1)=L:=fun h=>by rw[hLs];exact if_neg h
   by_cases h0:0≤r.Def
   ·by_cases h1:r.Def<(t0.Defs.length:Int)
    ·simp only[zz,g2,kp,Ba,hol,h0,h1];refine cd rfl ?_;simp only[zz];have hdl:r.Def.toNat<L.length:=by rw[hL];omega
     obtain⟨p,hp⟩:∃p,L[r.Def.toNat]?=some p:=⟨_,pn hdl⟩;have hEd:r.Def.toNat<E.length:=by rw[hEl];exact hdl
     have k0:r.Def.toNat<t0.Defs.length:=by omega
     have k1:(owns 1 L)[r.Def.toNat]?=some (.own (r.Def.toNat+1) p.1):=by rw[Sb,hp,lp,Yo]
     have k2:∀y,(E++[y])[r.Def.toNat]?=some (.live 1 p.1 (p.2.map e_i64)):=fun y=>by
      rw[List.getElem?_append_left hEd,hE];unfold Ta;rw[Qo,hp];rfl
     have k3:∀y e,(E++[y]).set r.Def.toNat e=E.set r.Def.toNat e++[y]:=fun y e=>by rw[Ps,if_pos hEd]
     have k4:∀e,(owns 1 L).set r.Def.toNat e=(owns 1 L).set r.Def.toNat e:=fun e=>rfl;have hpb:=hLb p (List.mem_of_getElem? hp);have hDb:=pc (n:=t0.Defs.length) hrg;have k5:(p.2.length+(cf t0.Defs.length r).length)*8≤2 ^ 47:=by
      have:2097152*i≤2097152*1048576:=ts _ (by omega);omega
     have k6:neN (E.length+1) (r.Def.toNat+1)=true:=kd (by omega);refine ay hmix [[],[],[],[],[],[],[],[],[],[],[],[],[2]] (by kernel_rfl) ?_;simp only[zz,zy,hol,h0,h1,k0,k1,k2,k3,k6,kp,Ba];have hdef:deps_definitionsOf r (t0.Defs.length:Int)=some (cf t0.Defs.length r):=deps_definitionsOf_s hrg _;refine lq (wa hdef) ?_ (by simp only[zg]);(try simp only[zz]at k5);simp only[zz,zy,hol,h0,h1,k0,k1,k2,k3,k5,k6,kp,Ba];refine⟨k6,rg ?_⟩;simp only[zz,KI_normal,hw];refine⟨hi,?_⟩;have hst:sd t0.Defs.length L r=L.set r.Def.toNat (p.1+1,p.2++cf t0.Defs.length r):=by
      unfold sd;rw[if_pos ⟨h0,h1⟩,wb hp]
     have e1:(owns 1 L).set r.Def.toNat (.own (r.Def.toNat+1) (p.1+1))=owns 1 (sL t0.Defs.length t0.Rules (i+1)):=by
      rw[hLs,hst,←Tb,Yo 1]
     have e2:E.set r.Def.toNat (.live 1 (p.1+1) (p.2.map e_i64++(cf t0.Defs.length r).map e_i64))=Ta (sL t0.Defs.length t0.Rules (i+1)):=by
      rw[hLs,hst,hE];unfold Ta;rw[List.map_set,Pp]
     rw[Hc,e1,e2,←xo];exact At.mk _ _ _ _ (by repeat (first|exact Subs.refl' _|refine Subs.cons (Sub.refl _) ?_|refine Subs.cons (Sub.toDead _) ?_))
    ·simp only[zz,g2,kp,Ba,hol,h0,h1];refine cd rfl ?_;simp only[zz];refine sk ?_;simp only[zz];refine rg ?_;simp only[zz,KI_normal,hw];refine⟨hi,?_⟩;rw[Hc,skipped (fun h=>h1 h.2),←hE,←xo];exact At.mk _ _ _ _ (by repeat (first|exact Subs.refl' _|refine Subs.cons (Sub.refl _) ?_|refine Subs.cons (Sub.toDead _) ?_))
   ·simp only[zz,g2,kp,Ba,hol,h0];refine cd rfl ?_;simp only[zz];refine sk ?_;simp only[zz];refine rg ?_;simp only[zz,KI_normal,hw];refine⟨hi,?_⟩;rw[Hc,skipped (fun h=>h0 h.1),←hE,←xo];exact At.mk _ _ _ _ (by repeat (first|exact Subs.refl' _|refine Subs.cons (Sub.refl _) ?_|refine Subs.cons (Sub.toDead _) ?_))
  ·refine xt ?_;simp only[zz,KI_exit];have hi:i=t0.Rules.length:=by omega
   subst hi;exact⟨rfl,At.same _ _ _ (by repeat (first|exact Subs.refl' _|refine Subs.cons (Sub.refl _) ?_|refine Subs.cons (Sub.toDead _) ?_))⟩
 ·simp only[zz];rw[Hc];have hL:(sL t0.Defs.length t0.Rules t0.Rules.length).length=t0.Defs.length:=kc;have hLb:=Vb (n:=t0.Defs.length) hg (i:=t0.Rules.length) (En _);generalize sL t0.Defs.length t0.Rules t0.Rules.length=L at hL hLb⊢;have hol:(owns 1 L).length=t0.Defs.length:=by rw[Ua,hL]
  refine ss (ss (rg ?_));simp only[zz,hol];refine T.blkI t0.Defs.length (S2 t0.Defs.length L) ?_ (fun j hj=>qf hL hj) (fun j hj=>?_) stab_S ?_
  ·rw[ud];exact At.same _ _ _ (by repeat (first|exact Subs.refl' _|refine Subs.cons (Sub.refl _) ?_|refine Subs.cons (Sub.toDead _) ?_))
  ·rw[ud];refine ss (rg ?_);simp only[zz];refine ss (cd rfl ?_);simp only[zz];refine gP.mk (fun hc=>?_) (fun hc=>?_)
   ·have hj:j<t0.Defs.length:=by omega
    have hjL:j<L.length:=by omega
    obtain⟨p,hp⟩:∃p,p=L[j]:=⟨_,rfl⟩;have hdr:L.drop j=p::L.drop (j+1):=by rw[hp];exact List.drop_eq_getElem_cons hjL
    have hpb:=hLb p (by rw[hp];exact On hjL);have hsort:deps_sortedSet p.2=some (dsort p.2):=deps_sortedSet_s (by
     have:2097152*t0.Rules.length≤2097152*1048576:=ts _ (by omega);omega)
    have hA:(A2 L j).length=j:=by unfold A2;rw[List.length_map,List.length_take];omega
    have hG:(yn j Ent.gone).length=j:=by simp
    rw[hdr];simp only[owns,Ta,List.map_cons];obtain⟨B,hB⟩:∃B,B=owns (1+j+1) (L.drop (j+1)):=⟨_,rfl⟩;obtain⟨F,hF⟩:∃F,F=Ta (L.drop (j+1)):=⟨_,rfl⟩;have hF':(L.drop (j+1)).map (fun p=>Ent.live 1 p.1 (p.2.map e_i64))=F:=by rw[hF];rfl
    rw[←hB,hF',Yo 1 j];have hBl:(A2 L j++.own (j+1) p.1::B).length=t0.Defs.length:=by
     rw[uo,jo,hA,hB,Ua,Gp];omega
    refine sk ?_;simp only[zz];refine ss (bk (ss (rg ?_)));simp only[zz,hBl,hj,qb hA,sb hA];refine rg ?_;simp only[zz,hBl,hj,qb hA,sb hA];refine callX_C (Na hsort) rfl (by simp only[qp];exact qb hG) ?_;simp only[zz,hBl,hj,qb hA,sb hA,sb hG];refine rg ?_;have hw:wrapF .i64 ((j:Int)+1)=((j+1:Nat):Int):=by rw[wrapI ⟨by omega,by omega⟩];omega
    simp only[zz,KI_normal,hw];refine⟨hj,?_⟩;have hA1:A2 L (j+1)=A2 L j++[e_s_i64 (dsort p.2)]:=by
     unfold A2;rw[Wo,pn hjL,←hp,Kq,Pp];rfl
    have e1:A2 L j++.sl 1 ((dsort p.2).map e_i64)::B=A2 L (j+1)++owns (1+(j+1)) (L.drop (j+1)):=by
     rw[hA1,Mo,hB,show 1+j+1=1+(j+1) by omega];rfl
    have e2:yn j Ent.gone++Ent.gone::F=yn (j+1) Ent.gone++Ta (L.drop (j+1)):=by
     rw[kr (n:=j),Mo,hF];rfl
    rw[ud,e1,e2];exact At.same _ _ _ (by repeat (first|exact Subs.refl' _|refine Subs.cons (Sub.refl _) ?_|refine Subs.cons (Sub.toDead _) ?_))
   ·refine xt ?_;simp only[zz,KI_exit];have hj:j=t0.Defs.length:=by omega
    subst hj;exact⟨rfl,At.same _ _ _ (by repeat (first|exact Subs.refl' _|refine Subs.cons (Sub.refl _) ?_|refine Subs.cons (Sub.toDead _) ?_))⟩
  ·simp only[zz];rw[ud,←hL,List.drop_length];have hA:A2 L L.length=(L.map fun p=>dsort p.2).map e_s_i64:=by unfold A2;rw[Ho,List.map_map];rfl
   rw[hA];simp only[owns,bo];refine T.trim 1 (Jp _) (by simp) ?_ ?_ ?_
   ·simp only[ds_succ,ds_zero,belows,Tm.below,Nn,Kp,xn,decide_eq_true_eq];exact⟨by omega,by omega,below_free _ _ (Fr.h _),below_free _ _ (Fr.h _)⟩
   ·simp only[Zo,Er,Aq,List.all_nil,Nn];exact belows_free _ _ (Fr.l _)
   simp only[Zo,Er];refine ss (rg ?_);simp only[zz];exact rt (er (by simp only[zz,zr];exact fq (by simp only[zg])))
theorem ld{n:Nat}{rs:List GRule}:∀i,i≤rs.length→∀d,d<n→((sL n rs i)[d]?).map (·.2)=some ((((rs.take i).filter fun(r:GRule)=>r.Def==(d:Int)).map (cf n)).flatten)
 |0,_,d,hd=>by simp[sL,hd]
 |i+1,h,d,hd=>by
  have ih:=ld (n:=n) (rs:=rs) i (by omega) d hd;rw[Jb h,Wo,pn h,Kq,List.filter_append,Pp,List.flatten_append];unfold sd;split
  ·rename_i hc;rw[List.getElem?_modify];by_cases hrd:rs[i].Def.toNat=d
   ·have he:rs[i].Def=(d:Int):=by omega
    simp only[if_pos hrd,Fs]
    cases hx:(sL n rs i)[d]? with
    |none=>rw[hx]at ih;cases ih
    |some p=>
     rw[hx]at ih;simp only[lp,An]at ih;simp[he,ih]
   ·have he:(rs[i].Def==(d:Int))=false:=by
     rw[beq_eq_false_iff_ne];intro he;exact hrd (by rw[he];simp)
    simp only[if_neg hrd,Fs,Option.map_id'];simp[he,ih]
  ·rename_i hc;have he:(rs[i].Def==(d:Int))=false:=by
    rw[beq_eq_false_iff_ne];intro he;exact hc (by omega)
   simp[he,ih]
theorem Xe{t0:GScope}:((sL t0.Defs.length t0.Rules t0.Rules.length).map fun p=>dsort p.2)=allD t0:=by
 apply List.ext_getElem?;intro d;unfold allD;rw[Qo,Qo];by_cases hd:d<t0.Defs.length
 ·have h:=ld (n:=t0.Defs.length) (rs:=t0.Rules) t0.Rules.length (En _) d hd;rw[Ho]at h;rw[List.getElem?_range hd,lp]
  cases hx:(sL t0.Defs.length t0.Rules t0.Rules.length)[d]? with
  |none=>rw[hx]at h;cases h
  |some p=>
   rw[hx]at h;simp only[lp,An]at h⊢;rw[h];rfl
 ·rw[Rn (by rw[kc];omega),Rn (by simp;omega)];rfl
theorem Za{t0:GScope}{r:List (List Int)}(h:deps_allDirect t0=some r):Den Tryz.prog 233 [e_GScope t0] (e_s_s_i64 r):=by
 have h':=h;unfold deps_allDirect at h';split at h'
 ·rename_i hc;obtain⟨h1,h2,h3⟩:=hc;have hs:=deps_allDirect_s ⟨h1,h2,h3⟩;rw[h]at hs;obtain rfl:=eo hs;have:=tf h1 h2 h3;rwa [Xe]at this
 ·cases h'
instance {t0 r}:Con (deps_allDirect t0=some r) (Den Tryz.prog 233 [e_GScope t0] (e_s_s_i64 r)):=⟨Za⟩
instance {t0 t1 r}:Con (deps_Transitive t0 t1=some r) (Den Tryz.prog 180 [e_GScope t0,e_i64 t1] (e_s_i64 r)):=⟨fun h=>by
 refine dk 16 fe ?_
 simp only[fe,Kf.of,zs,ze]
 unfold deps_Transitive at h
 exact pg trivial (.z 2 (.j 1 (fun(j2:Bool)=>⟨[.k 1,.p 3,.k 9,.s (e_bool j2),.p 4],[.o 0]⟩) (.b (.t [ok 0]) (.t [ok 0])) .o))⟩
end Go.Proofs.Dev
