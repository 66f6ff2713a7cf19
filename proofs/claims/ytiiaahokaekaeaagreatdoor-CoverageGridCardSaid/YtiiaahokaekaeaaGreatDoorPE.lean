/-
  Plain lemmas about the functions.
-/
import Derived.Test.YtiiaahokaekaeaaGreatDoorPD
set_option linter.all false
set_option maxRecDepth 10000
set_option maxHeartbeats 1000000
namespace Go.Proofs.Dev
open Go Go.Tm
def contB (r:GDateRange) (d:Int):Bool:=vrB r&&(decide (r.From≤d)&&decide (d<r.To))
theorem daterange_Contains_s (r:GDateRange) (d:Int):daterange_Contains r d=some (contB r d):=by
 unfold daterange_Contains contB;rw [daterange_Valid_s,Option.bind_some];cases vrB r
 ·rfl
 ·by_cases h:r.From≤d<;>simp [h]
theorem ref05_Contains_s (r:GDateRange) (d:Int):ref05_Contains r d=some (contB r d):=by
 unfold ref05_Contains contB;rw [ref05_Valid_s,Option.bind_some];cases vrB r
 ·rfl
 ·by_cases h:r.From≤d<;>simp [h]
def onB (def_ date:Int) (r:GRule):Bool:=decide (r.Def=def_)&&contB r.Valid date
theorem onB_s (def_ date:Int) (r:GRule):effective_RulesOn_c1 r def_ date=some (onB def_ date r):=by
 unfold effective_RulesOn_c1 onB;rw [daterange_Contains_s];by_cases h:r.Def=def_<;>simp [h]
def remS (rules:List GRule) (q:GRule→Bool):Nat→List Int×List Int×List Int
 |0=>([],[],List.replicate rules.length 0)
 |i+1=>
  match rules[i]? with
  |none=>remS rules q i
  |some r=>
   let p:=remS rules q i
   let anc:=if 0≤r.Parent∧r.Parent<(i:Int)then (p.2.2[r.Parent.toNat]?).getD 0 else -1
   if q r=true then (p.1++[(i:Int)],p.2.1++[anc],(p.2.2.set i anc).set i (p.1.length:Int))else (p.1,p.2.1,p.2.2.set i anc)
theorem remS_len {rules:List GRule}{q:GRule→Bool}:∀i,(remS rules q i).2.2.length=rules.length∧(remS rules q i).1.length≤i∧(remS rules q i).2.1.length=(remS rules q i).1.length
 |0=>by simp [remS]
 |i+1=>by
  obtain⟨h1,h2,h3⟩:=remS_len (rules:=rules) (q:=q) i;unfold remS;split
  ·exact⟨h1,by omega,h3⟩
  ·dsimp only;split<;>simp [h1,h3]<;>omega
theorem remS_mem {rules:List GRule}{q:GRule→Bool}:∀i,∀x∈(remS rules q i).1,0≤x∧x<(rules.length:Int)∧x<(i:Int)
 |0=>by simp [remS]
 |i+1=>by
  have h:=remS_mem (rules:=rules) (q:=q) i;unfold remS;split
  ·intro x hx;have:=h x hx;omega
  ·rename_i r hr;have hi:=(List.getElem?_eq_some_iff.1 hr).1;dsimp only;split
   ·intro x hx;simp only [List.mem_append,List.mem_singleton]at hx;rcases hx with hx|rfl
    ·have:=h x hx;omega
    ·omega
   ·intro x hx;have:=h x hx;omega
theorem effective_remaining_s {rules:List GRule}(hr:rules.length≤1048576) {f:GRule→Option Bool}{q:GRule→Bool}(hf:∀r,f r=some (q r)):effective_remaining rules f=some ((remS rules q rules.length).1,(remS rules q rules.length).2.1):=by
 unfold effective_remaining;rw [mksN (by omega) (by omega),Option.bind_some];have hl:loopO (effective_remaining_L1 rules f) (([]:List Int),([]:List Int),List.replicate rules.length 0,0)=some (.inl ((remS rules q rules.length).1,(remS rules q rules.length).2.1)):=by
  refine loopG (fun i=>((remS rules q i).1,(remS rules q i).2.1,(remS rules q i).2.2,(i:Int))) rules.length _ (fun i hi=>?_) (by unfold effective_remaining_L1;simp) rfl;obtain⟨h1,h2,h3⟩:=remS_len (rules:=rules) (q:=q) i;unfold effective_remaining_L1;simp only [remS,List.getElem?_eq_getElem hi];rw [if_pos (by omega),idxN hi,Option.bind_some,wsucc (by omega),hf];generalize rules[i]=r;have hanc:(Option.bind (α:=Int) (Option.bind (α:=Bool) (if 0≤r.Parent then some (decide (r.Parent<(i:Int)))else some false) fun j9=>if j9=true then (idx (remS rules q i).2.2 r.Parent).bind fun x11=>some x11 else some (-1)) fun j12=>some j12)=some (if 0≤r.Parent∧r.Parent<(i:Int)then ((remS rules q i).2.2[r.Parent.toNat]?).getD 0 else -1):=by
   by_cases g1:0≤r.Parent
   ·by_cases g2:r.Parent<(i:Int)
    ·rw [if_pos g1,Option.bind_some,if_pos (by simpa using g2),if_pos ⟨g1,g2⟩,idxI g1 (by omega),List.getElem?_eq_getElem (by omega)];rfl
    ·rw [if_pos g1,Option.bind_some,if_neg (by simpa using g2),if_neg (by omega)];rfl
   ·rw [if_neg g1,if_neg (by omega)];rfl
  have hanc':(Option.bind (α:=Bool) (if 0≤r.Parent then some (decide (r.Parent<(i:Int)))else some false) fun j9=>if j9=true then (idx (remS rules q i).2.2 r.Parent).bind fun x11=>some x11 else some (-1))=some (if 0≤r.Parent∧r.Parent<(i:Int)then ((remS rules q i).2.2[r.Parent.toNat]?).getD 0 else -1):=by
   rw [←hanc];simp
  rw [hanc',Option.bind_some];generalize (if 0≤r.Parent∧r.Parent<(i:Int)then ((remS rules q i).2.2[r.Parent.toNat]?).getD 0 else -1)=anc;rw [idxN (i:=i) (by omega),Option.bind_some,putN (by omega),Option.bind_some,Option.bind_some];cases q r
  ·simp
  ·rw [if_pos rfl,idxN (i:=i) (by simp;omega),Option.bind_some,putN (by simp;omega),Option.bind_some,appS (by simp;omega),Option.bind_some,appS (by simp;omega),Option.bind_some];rfl
 rw [hl];rfl
theorem effective_RulesOn_s {s:GScope}(hs:s.Rules.length≤1048576) (def_ date:Int):effective_RulesOn s def_ date=some (remS s.Rules (onB def_ date) s.Rules.length).1:=by
 unfold effective_RulesOn;rw [effective_remaining_s hs fun r=>onB_s def_ date r];rfl
theorem ref15_RulesOn_s {s:GScope}(hs:s.Rules.length≤1048576) (def_ date:Int):ref15_RulesOn s def_ date=some (remS s.Rules (onB def_ date) s.Rules.length).1:=by
 unfold ref15_RulesOn;have hl:loopO (ref15_RulesOn_L1 s def_ date) (([]:List Int),0)=some (.inl (remS s.Rules (onB def_ date) s.Rules.length).1):=by
  refine loopG (fun i=>((remS s.Rules (onB def_ date) i).1,(i:Int))) s.Rules.length _ (fun i hi=>?_) (by unfold ref15_RulesOn_L1;simp) rfl;obtain⟨h1,h2,h3⟩:=remS_len (rules:=s.Rules) (q:=onB def_ date) i;unfold ref15_RulesOn_L1;simp only [remS,List.getElem?_eq_getElem hi];rw [if_pos (by omega),idxN hi,Option.bind_some,wsucc (by omega),ref05_Contains_s];generalize s.Rules[i]=r;have hq:(if r.Def=def_ then (some (contB r.Valid date)).bind fun x6=>some x6 else some false)=some (onB def_ date r):=by
   unfold onB;by_cases h:r.Def=def_<;>simp [h]
  rw [hq,Option.bind_some];cases onB def_ date r
  ·simp
  ·rw [if_pos rfl,appS (by simp;omega)];rfl
 rw [hl];rfl
def gdsS (s:GScope) (l:List Int):List (List GNode):=(l.map fun i=>((s.Rules[i.toNat]?).map (·.Guard)).getD []).filter fun g=>decide (0<g.length)
theorem gds_loop {s:GScope}{l:List Int}(hl:l.length≤1048576) (hm:∀x∈l,0≤x∧x<(s.Rules.length:Int)) {step:List (List GNode)×Int→Option (Ex (List (List GNode)×Int) (List (List GNode)) Unit)}
 (hstep:step=coverage_guardsOn_L1 s l):loopO step (([]:List (List GNode)),0)=some (.inl (gdsS s l)):=by
 subst hstep;have hlen:∀k,(gdsS s (l.take k)).length≤k:=fun k=>by
  have:=List.length_filter_le (fun(g:List GNode)=>decide (0<g.length)) ((l.take k).map fun i=>((s.Rules[i.toNat]?).map (·.Guard)).getD []);rw [List.length_map,List.length_take]at this;unfold gdsS;omega
 refine loopG (fun i=>(gdsS s (l.take i),(i:Int))) l.length _ (fun i hi=>?_) (by unfold coverage_guardsOn_L1;simp) rfl;have hx:=hm _ (List.getElem_mem hi);have:=hlen i;have ht:gdsS s (l.take (i+1))=gdsS s (l.take i)++(if 0<(s.Rules[l[i].toNat]'(by omega)).Guard.length then [(s.Rules[l[i].toNat]'(by omega)).Guard]else []):=by
  unfold gdsS;rw [List.take_add_one,List.getElem?_eq_getElem hi,Option.toList_some,List.map_append,List.filter_append,List.map_singleton,List.getElem?_eq_getElem (l:=s.Rules) (by omega)];simp only [Option.map_some,Option.getD_some,List.filter_cons,List.filter_nil,decide_eq_true_eq]
 unfold coverage_guardsOn_L1;simp only;rw [if_pos (by omega),idxN hi,Option.bind_some,idxI hx.1 hx.2,Option.bind_some,wsucc (by omega),ht];by_cases h0:0<(s.Rules[l[i].toNat]'(by omega)).Guard.length
 ·rw [if_pos (by omega),if_pos h0,appS (by simp;omega)];rfl
 ·rw [if_neg (by omega),if_neg h0];simp
noncomputable def gdOn (s:GScope) (def_ date:Int):List (List GNode):=gdsS s (remS s.Rules (onB def_ date) s.Rules.length).1
theorem coverage_guardsOn_s {s:GScope}(hs:s.Rules.length≤1048576) (def_ date:Int):coverage_guardsOn s def_ date=some (gdOn s def_ date):=by
 unfold coverage_guardsOn;have hm:=remS_mem (rules:=s.Rules) (q:=onB def_ date) s.Rules.length;have hl:=(remS_len (rules:=s.Rules) (q:=onB def_ date) s.Rules.length).2.1;rw [effective_RulesOn_s hs,Option.bind_some,gds_loop (by omega) (fun x hx=>⟨(hm x hx).1,(hm x hx).2.1⟩) rfl];rfl
theorem ref24_guards_s {s:GScope}(hs:s.Rules.length≤1048576) (def_ date:Int):ref24_guards s def_ date=some (gdOn s def_ date):=by
 unfold ref24_guards;have hm:=remS_mem (rules:=s.Rules) (q:=onB def_ date) s.Rules.length;have hl:=(remS_len (rules:=s.Rules) (q:=onB def_ date) s.Rules.length).2.1;rw [ref15_RulesOn_s hs,Option.bind_some,gds_loop (s:=s) (l:=(remS s.Rules (onB def_ date) s.Rules.length).1) (step:=ref24_guards_L1 s _) (by omega) (fun x hx=>⟨(hm x hx).1,(hm x hx).2.1⟩) rfl];rfl
theorem gdOn_sub {s:GScope}{def_ date:Int}{g:List GNode}(h:g∈gdOn s def_ date):∃r∈s.Rules,r.Guard=g:=by
 unfold gdOn gdsS at h;obtain⟨h1,h2⟩:=List.mem_filter.1 h;obtain⟨i,hi,rfl⟩:=List.mem_map.1 h1;have hm:=remS_mem (rules:=s.Rules) (q:=onB def_ date) s.Rules.length i hi;rw [List.getElem?_eq_getElem (l:=s.Rules) (by omega)];exact⟨_,List.getElem_mem _,rfl⟩
theorem gdOn_len (s:GScope) (def_ date:Int):(gdOn s def_ date).length≤s.Rules.length:=by
 have hl:=(remS_len (rules:=s.Rules) (q:=onB def_ date) s.Rules.length).2.1;have:=List.length_filter_le (fun(g:List GNode)=>decide (0<g.length)) ((remS s.Rules (onB def_ date) s.Rules.length).1.map fun i=>((s.Rules[i.toNat]?).map (·.Guard)).getD []);rw [List.length_map]at this;unfold gdOn gdsS;omega
theorem cloneEnums_s {l:List GEnum}(hl:l.length≤1048576) (hm:∀x∈l,x.Members.length≤1099511627776):law_cloneEnums l=some l:=by
 unfold law_cloneEnums;have h1:loopO (law_cloneEnums_L1 l) (([]:List GEnum),0)=some (.inl l):=by
  refine loopG (fun i=>(l.take i,(i:Int))) l.length _ (fun i hi=>?_) (by unfold law_cloneEnums_L1;simp) rfl;unfold law_cloneEnums_L1 slices_Clone_string_string;simp only;rw [if_pos (by omega),idxN hi,Option.bind_some,if_pos (hm _ (List.getElem_mem hi)),Option.bind_some,appS (by simp;omega),Option.bind_some,wsucc (by omega),List.take_add_one,List.getElem?_eq_getElem hi];rfl
 rw [h1];rfl
theorem cloneTables_s {l:List GTable}(hl:l.length≤1048576) (hm:∀x∈l,x.Rows.length≤1099511627776):law_cloneTables l=some l:=by
 unfold law_cloneTables;have h1:loopO (law_cloneTables_L1 l) (([]:List GTable),0)=some (.inl l):=by
  refine loopG (fun i=>(l.take i,(i:Int))) l.length _ (fun i hi=>?_) (by unfold law_cloneTables_L1;simp) rfl;unfold law_cloneTables_L1 slices_Clone_api_Row_api_Row;simp only;rw [if_pos (by omega),idxN hi,Option.bind_some,if_pos (hm _ (List.getElem_mem hi)),Option.bind_some,appS (by simp;omega),Option.bind_some,wsucc (by omega),List.take_add_one,List.getElem?_eq_getElem hi];rfl
 rw [h1];rfl
theorem sigS_et (l:GLaw) (s:GScope):(sigS l s).Enums=l.Enums∧(sigS l s).Tables=l.Tables:=by
 unfold sigS;split<;>exact⟨rfl,rfl⟩
theorem law_Signature_s {l:GLaw}(h:LawOk l) (hm:∀x∈l.Enums,x.Members.length≤1099511627776) (hr:∀x∈l.Tables,x.Rows.length≤1099511627776) {i:Nat}(hi:i<l.Scopes.length):law_Signature l (i:Int)=some (sigS l l.Scopes[i]):=by
 unfold law_Signature;obtain⟨e1,e2⟩:=sigS_et l l.Scopes[i];rw [if_pos (by omega),Option.bind_some,if_neg (by simp;omega),law_sharedSignature_s h hi,Option.bind_some,e1,cloneEnums_s h.ne hm,Option.bind_some,e2,cloneTables_s h.nt hr,Option.bind_some,←e1,←e2]
end Go.Proofs.Dev
namespace Go.Proofs.Dev
open Go Go.Tm
structure SkInv (i:Nat) (st sk:List Int):Prop where
 len:st.length=i
 pos:0<i→sk≠[]
 zero:i=0→sk=[]
 last:∀k,k+1=sk.length→st[i-1]?=sk[k]?
 chain:∀j,j+1<sk.length→∃a b:Nat,sk[j]?=some (a:Int)∧sk[j+1]?=some (b:Int)∧a<b∧st[b-1]?=some (a:Int)
 bound:∀j,j<sk.length→∃a:Nat,sk[j]?=some (a:Int)∧a<i
theorem sk_inv {e:List GNode}(h:Wst e):∀i,i≤e.length→SkInv i (stk e i).1 (stk e i).2
 |0,_=>by
  refine⟨rfl,by omega,fun _=>rfl,?_,?_,?_⟩
  ·intro k hk;simp [stk]at hk
  ·intro j hj;simp [stk]at hj
  ·intro j hj;simp [stk]at hj
 |i+1,hi=>by
  have ih:=sk_inv h i (by omega);obtain⟨a1,a2,a3⟩:=h.ar (i:=i) (by omega);have hst:stk e (i+1)=((stk e i).1++[if 0<arN e i then ((stk e i).2[(stk e i).2.length-arN e i]?).getD 0 else (i:Int)],(stk e i).2.take ((stk e i).2.length-arN e i)++[if 0<arN e i then ((stk e i).2[(stk e i).2.length-arN e i]?).getD 0 else (i:Int)]):=rfl;rw [hst];generalize (stk e i).1=st at ih⊢;generalize (stk e i).2=sk at ih a2⊢;generalize arN e i=a at a2⊢;obtain⟨f,hf,hfi,hfl⟩:∃f:Nat,(if 0<a then (sk[sk.length-a]?).getD 0 else (i:Int))=(f:Int)∧f≤i∧(∀j,j+1=sk.length-a→∃b:Nat,sk[j]?=some (b:Int)∧b<f∧st[f-1]?=some (b:Int)):=by
   by_cases ha:0<a
   ·obtain⟨f,h1,h2⟩:=ih.bound (sk.length-a) (by omega);refine⟨f,by rw [if_pos ha,h1];rfl,by omega,fun j hj=>?_⟩;obtain⟨x,y,k1,k2,k3,k4⟩:=ih.chain j (by omega);rw [show j+1=sk.length-a from hj,h1]at k2;injection k2 with k2;have:f=y:=by omega
    subst this;exact⟨x,k1,k3,k4⟩
   ·refine⟨i,by rw [if_neg ha],by omega,fun j hj=>?_⟩;obtain⟨x,k1,k2⟩:=ih.bound j (by omega);refine⟨x,k1,k2,?_⟩;rw [←k1];exact ih.last j (by omega)
  rw [hf];have hlen:(sk.take (sk.length-a)).length=sk.length-a:=by simp
  refine⟨by simp [ih.len],fun _=>by simp,fun h=>by omega,?_,?_,?_⟩
  ·intro k hk;simp only [List.length_append,hlen,List.length_singleton]at hk;rw [Nat.add_sub_cancel,List.getElem?_append_right (by rw [ih.len];omega),ih.len,Nat.sub_self,List.getElem?_append_right (by omega),hlen,show k-(sk.length-a)=0 by omega]
  ·intro j hj;simp only [List.length_append,hlen,List.length_singleton]at hj;by_cases hj2:j+1<sk.length-a
   ·obtain⟨x,y,k1,k2,k3,k4⟩:=ih.chain j (by omega);obtain⟨y',q1,q2⟩:=ih.bound (j+1) (by omega);rw [k2]at q1;injection q1 with q1;refine⟨x,y,?_,?_,k3,?_⟩
    ·rw [List.getElem?_append_left (by omega),List.getElem?_take_of_lt (by omega)];exact k1
    ·rw [List.getElem?_append_left (by omega),List.getElem?_take_of_lt (by omega)];exact k2
    ·rw [List.getElem?_append_left (by rw [ih.len];omega)];exact k4
   ·obtain⟨x,k1,k2,k3⟩:=hfl j (by omega);refine⟨x,f,?_,?_,k2,?_⟩
    ·rw [List.getElem?_append_left (by omega),List.getElem?_take_of_lt (by omega)];exact k1
    ·rw [List.getElem?_append_right (by omega),hlen,show j+1-(sk.length-a)=0 by omega];rfl
    ·rw [List.getElem?_append_left (by rw [ih.len];omega)];exact k3
  ·intro j hj;simp only [List.length_append,hlen,List.length_singleton]at hj;by_cases hj2:j<sk.length-a
   ·obtain⟨x,k1,k2⟩:=ih.bound j (by omega);refine⟨x,?_,by omega⟩;rw [List.getElem?_append_left (by omega),List.getElem?_take_of_lt (by omega)];exact k1
   ·refine⟨f,?_,by omega⟩;rw [List.getElem?_append_right (by omega),hlen,show j-(sk.length-a)=0 by omega];rfl
theorem stk_pre {e:List GNode}:∀{n i k:Nat},i≤n→k<i→(stk e n).1[k]?=(stk e i).1[k]?
 |0,i,k,h,hk=>by omega
 |n+1,i,k,h,hk=>by
  by_cases hin:i=n+1
  ·subst hin;rfl
  ·have:(stk e (n+1)).1=(stk e n).1++[if 0<(arityS (ndAt e n).Op).toNat then ((stk e n).2[(stk e n).2.length-(arityS (ndAt e n).Op).toNat]?).getD 0 else (n:Int)]:=rfl;rw [this,List.getElem?_append_left (by rw [stk_len];omega)];exact stk_pre (by omega) hk
def opN (e:List GNode) (i j:Nat):Nat:=if j+1=arN e i then i-1 else (((stk e i).2[(stk e i).2.length-arN e i+j+1]?).getD 0).toNat-1
def opL (e:List GNode) (i:Nat):List Int:=(List.range (arN e i)).map fun j=>(opN e i j:Int)
theorem op_spec {e:List GNode}(h:Wst e) {i:Nat}(hi:i<e.length) {j:Nat}(hj:j<arN e i):opN e i j<i∧∃s:Nat,(stk e e.length).1[opN e i j]?=some (s:Int)∧(∀j',j'+1=j→opN e i j'+1=s):=by
 have ih:=sk_inv h i (by omega);obtain⟨a1,a2,a3⟩:=h.ar hi;have hi0:0<i:=by
  rcases Nat.eq_zero_or_pos i with h0|h0
  ·have:=ih.zero h0;rw [this]at a2;simp at a2;omega
  ·exact h0
 have hlt:opN e i j<i∧∃s:Nat,(stk e i).1[opN e i j]?=some (s:Int)∧(stk e i).2[(stk e i).2.length-arN e i+j]?=some (s:Int):=by
  unfold opN;generalize (stk e i).1=st at ih⊢;generalize (stk e i).2=sk at ih a2⊢;generalize arN e i=a at a2 hj⊢;by_cases hja:j+1=a
  ·rw [if_pos hja];obtain⟨x,k1,k2⟩:=ih.bound (sk.length-a+j) (by omega);exact⟨by omega,x,by rw [ih.last (sk.length-a+j) (by omega)];exact k1,k1⟩
  ·rw [if_neg hja];obtain⟨x,y,k1,k2,k3,k4⟩:=ih.chain (sk.length-a+j) (by omega);obtain⟨y',q1,q2⟩:=ih.bound (sk.length-a+j+1) (by omega);rw [k2]at q1;injection q1 with q1;rw [k2];simp only [Option.getD_some,Int.toNat_natCast];exact⟨by omega,x,k4,k1⟩
 obtain⟨h1,s,h2,h3⟩:=hlt;refine⟨h1,s,by rw [stk_pre (Nat.le_of_lt hi) h1];exact h2,fun j' hj'=>?_⟩;subst hj';obtain⟨x,y,k1,k2,k3,k4⟩:=ih.chain ((stk e i).2.length-arN e i+j') (by omega);rw [show (stk e i).2.length-arN e i+(j'+1)=(stk e i).2.length-arN e i+j'+1 by omega,k2]at h3;injection h3 with h3;unfold opN;rw [if_neg (by omega),k2];simp only [Option.getD_some,Int.toNat_natCast];omega
theorem start_le {e:List GNode}(h:Wst e):∀{n k s:Nat},n≤e.length→(stk e n).1[k]?=some (s:Int)→s≤k
 |0,k,s,_,hs=>by simp [stk]at hs
 |n+1,k,s,hn,hs=>by
  have hk:k<n+1:=by
   have:=(List.getElem?_eq_some_iff.1 hs).1;rwa [stk_len]at this
  by_cases hkn:k=n
  ·subst hkn;have ih:=sk_inv h (k+1) hn;have hne:=ih.pos (by omega);obtain⟨q,hq⟩:∃q,q+1=(stk e (k+1)).2.length:=⟨(stk e (k+1)).2.length-1,by have:=List.length_pos_iff.2 hne;omega⟩;have h1:=ih.last q hq;rw [Nat.add_sub_cancel,hs]at h1;obtain⟨x,k1,k2⟩:=ih.bound q (by omega);rw [k1]at h1;injection h1 with h1;omega
  ·rw [stk_pre (i:=n) (by omega) (by omega)]at hs;exact start_le h (by omega) hs
theorem structS_ok {e:List GNode}(h:Wst e):structS e=((stk e e.length).1,0,0):=by
 have:=h.pos;have:=h.le;have:=h.one;unfold structS;rw [if_neg (by omega),if_neg (by omega),ff_none.2 h.err];dsimp only;rw [if_neg (by omega)]
theorem expr_Operands_s {e:List GNode}(h:Wst e) {i:Nat}(hi:i<e.length):expr_Operands e (i:Int)=some (opL e i):=by
 have hle:=h.le;obtain⟨a1,a2,a3⟩:=h.ar hi;have ha3:arN e i≤12:=by have:=stk_small (e:=e) (i:=i) fun j hj=>h.err j (by omega);omega
 have haI:arityS (ndAt e i).Op=(arN e i:Int):=by unfold arN;omega
 unfold expr_Operands expr_Starts;rw [expr_structure_s,structS_ok h,Option.bind_some,Option.bind_some];dsimp only;rw [if_pos rfl,if_pos (by omega),Option.bind_some,if_neg (by simp;omega),idxN hi,Option.bind_some,ndAt_lt hi,expr_Arity_s,Option.bind_some,haI,mksN (by omega) (by omega),Option.bind_some,List.length_replicate,wid (n:=(i:Int)-1) (by omega) (by omega),wid (n:=(arN e i:Int)-1) (by omega) (by omega)];have hl:loopO (expr_Operands_L1 ((stk e e.length).1,0)) (List.replicate (arN e i) 0,(i:Int)-1,(arN e i:Int)-1)=some (.inl (opL e i)):=by
  refine loopG (fun t=>(List.replicate (arN e i-t) 0++(opL e i).drop (arN e i-t),(if t=0 then (i:Int)-1 else if t=arN e i then (((stk e e.length).1[opN e i 0]?).getD 0)-1 else (opN e i (arN e i-t-1):Int)),(arN e i:Int)-1-t)) (arN e i) _ (fun t ht=>?_) ?_ ?_
  ·obtain⟨j,hj⟩:∃j,arN e i=t+j+1:=⟨arN e i-t-1,by omega⟩;obtain⟨o1,s,o2,o3⟩:=op_spec h hi (j:=j) (by omega);unfold expr_Operands_L1;dsimp only;have hlast:(if t=0 then (i:Int)-1 else if t=arN e i then (((stk e e.length).1[opN e i 0]?).getD 0)-1 else (opN e i (arN e i-t-1):Int))=(opN e i j:Int):=by
    by_cases t0:t=0
    ·rw [if_pos t0];unfold opN;rw [if_pos (by omega)];omega
    ·rw [if_neg t0,if_neg (by omega),show arN e i-t-1=j by omega]
   rw [hlast,if_pos (by omega),show (arN e i:Int)-1-t=((j:Nat):Int) by omega];have hL:(opL e i).length=arN e i:=by simp [opL]
   rw [idxN (i:=j) (by simp;omega),Option.bind_some,putN (by simp;omega),Option.bind_some];rw [idxN?,o2,Option.bind_some];have hset:(List.replicate (arN e i-t) 0++(opL e i).drop (arN e i-t)).set j (opN e i j:Int)=List.replicate (arN e i-(t+1)) 0++(opL e i).drop (arN e i-(t+1)):=by
    rw [show arN e i-t=j+1 by omega,show arN e i-(t+1)=j by omega,List.replicate_succ',List.append_assoc,List.set_append_right _ _ (by simp),List.length_replicate,Nat.sub_self];congr 1;rw [List.drop_eq_getElem_cons (i:=j) (by omega)];simp [opL]
   have hlt:opN e i j<(stk e e.length).1.length:=by rw [stk_len];omega
   have hs:(s:Int)-1=(if t+1=0 then (i:Int)-1 else if t+1=arN e i then (((stk e e.length).1[opN e i 0]?).getD 0)-1 else (opN e i (arN e i-(t+1)-1):Int)):=by
    rw [if_neg (by omega)];by_cases j0:j=0
    ·subst j0;rw [if_pos (by omega),o2];rfl
    ·rw [if_neg (by omega)];have:=o3 (j-1) (by omega);rw [show arN e i-(t+1)-1=j-1 by omega];omega
   have hsb:(0:Int)≤s∧(s:Int)≤100:=by
    have:=start_le h (Nat.le_refl _) o2;omega
   rw [hset,wid (n:=(s:Int)-1) (by omega) (by omega),wid (n:=((j:Nat):Int)-1) (by omega) (by omega),hs];congr 4;omega
  ·unfold expr_Operands_L1;dsimp only;rw [if_neg (by omega),Nat.sub_self];simp
  ·have hL:(opL e i).length=arN e i:=by simp [opL]
   simp [hL]
 rw [hl];rfl
end Go.Proofs.Dev
namespace Go.Proofs.Dev
open Go Go.Tm
theorem ref10_Operands_s {e:List GNode}(h:Wst e) {i:Nat}(hi:i<e.length):ref10_Operands e (i:Int)=some (opL e i):=by
 rw [←expr_Operands_s h hi];have hle:=h.le;obtain⟨a1,a2,a3⟩:=h.ar hi;have ha3:arN e i≤12:=by have:=stk_small (e:=e) (i:=i) fun j hj=>h.err j (by omega);omega
 have haI:arityS (ndAt e i).Op=(arN e i:Int):=by unfold arN;omega
 unfold expr_Operands ref10_Operands expr_Starts;rw [expr_structure_s,ref10_structure_s,structS_ok h,Option.bind_some,Option.bind_some,Option.bind_some];dsimp only;have hcond:(if (0:Int)=0 then if¬(i:Int)<0 then some (decide ((e.length:Int)≤(i:Int)))else some true else some true)=some false:=by
  rw [if_pos rfl,if_pos (by omega),decide_eq_false (by omega)]
 rw [hcond];simp only [Option.bind_some,Bool.false_eq_true,if_false];rw [idxN hi,Option.bind_some,Option.bind_some,ndAt_lt hi,expr_Arity_s,ref10_Arity_s,Option.bind_some,Option.bind_some,haI,mksN (by omega) (by omega),Option.bind_some,Option.bind_some,List.length_replicate];rfl
def litB (op:Int):Bool:=decide (2≤op)&&decide (op≤6)
def cmpB (op:Int):Bool:=decide (19≤op)&&decide (op≤22)
theorem ref23_literal_s (op:Int):ref23_literal op=some (litB op):=by unfold ref23_literal litB;exact range2
theorem ref23_comparison_s (op:Int):ref23_comparison op=some (cmpB op):=by unfold ref23_comparison cmpB;exact range2
theorem cells_isLiteral_s (n:GNode):cells_isLiteral n=some (litB n.Op):=by
 unfold cells_isLiteral litB;by_cases h:2≤n.Op∧n.Op≤6
 ·rcases (by omega:n.Op=2∨n.Op=3∨n.Op=4∨n.Op=5∨n.Op=6)with h|h|h|h|h<;>simp [h]
 ·have hn:∀k:Int,2≤k→k≤6→¬n.Op=k:=fun k h1 h2 he=>h (by omega);simp [hn];omega
theorem cells_isComparison_s (n:GNode):cells_isComparison n=some (cmpB n.Op):=by
 unfold cells_isComparison cmpB;by_cases h:19≤n.Op∧n.Op≤22
 ·rcases (by omega:n.Op=19∨n.Op=20∨n.Op=21∨n.Op=22)with h|h|h|h<;>simp [h]
 ·have hn:∀k:Int,19≤k→k≤22→¬n.Op=k:=fun k h1 h2 he=>h (by omega);simp [hn];omega
def simS (e:List GNode) (i:Nat):Option (Int×GNode):=
 if arN e i=2 then
  (
   if (ndAt e (opN e i 0)).Op=7∧litB (ndAt e (opN e i 1)).Op=true then some ((ndAt e (opN e i 0)).N,ndAt e (opN e i 1))
   else if (ndAt e (opN e i 1)).Op=7∧litB (ndAt e (opN e i 0)).Op=true then some ((ndAt e (opN e i 1)).N,ndAt e (opN e i 0))else none)
 else none
def simI:Option (Int×GNode)→Int×GNode×Bool
 |some v=>(v.1,v.2,true)
 |none=>(0,⟨0,0⟩,false)
def simR:Option (Int×GNode)→GNode×GNode×Bool
 |some v=>(⟨7,v.1⟩,v.2,true)
 |none=>(⟨0,0⟩,⟨0,0⟩,false)
theorem opL2 {e:List GNode}{i:Nat}(h2:arN e i=2):opL e i=[(opN e i 0:Int),(opN e i 1:Int)]:=by
 unfold opL;rw [h2];rfl
theorem cells_simple_s {e:List GNode}(h:Wst e) {i:Nat}(hi:i<e.length):cells_simpleComparison e (i:Int)=some (simI (simS e i)):=by
 unfold cells_simpleComparison simS;rw [expr_Operands_s h hi,Option.bind_some];by_cases h2:arN e i=2
 ·have o1:=(op_spec h hi (j:=0) (by omega)).1;have o2:=(op_spec h hi (j:=1) (by omega)).1;rw [if_pos h2,opL2 h2,if_neg (by simp),idx0,idx1,Option.bind_some,idxN (by omega),Option.bind_some,ndAt_lt (by omega),Option.bind_some];rw [idxN (by omega),Option.bind_some,ndAt_lt (by omega),cells_isLiteral_s,cells_isLiteral_s];generalize ndAt e (opN e i 0)=a;generalize ndAt e (opN e i 1)=b;by_cases ha:a.Op=7
  ·cases hb:litB b.Op
   ·by_cases hb7:b.Op=7
    ·cases hl:litB a.Op<;>simp [ha,hb7,hl,simI]
     all_goals simp_all
    ·simp [ha,hb7,simI]
   ·simp [ha,simI]
  ·by_cases hb7:b.Op=7
   ·cases hl:litB a.Op<;>simp [ha,hb7,simI]
   ·simp [ha,hb7,simI]
 ·have hL:(opL e i).length=arN e i:=by simp [opL]
  rw [if_neg h2,if_pos (by rw [hL];omega)];rfl
theorem ref23_simple_s {e:List GNode}(h:Wst e) {i:Nat}(hi:i<e.length):ref23_simple e (i:Int)=some (simR (if cmpB (ndAt e i).Op=true then simS e i else none)):=by
 unfold ref23_simple simS;rw [ref10_Operands_s h hi,Option.bind_some,idxN hi,Option.bind_some,ndAt_lt hi,ref23_comparison_s,Option.bind_some];have hL:(opL e i).length=arN e i:=by simp [opL]
 cases cmpB (ndAt e i).Op
 ·rfl
 simp only [if_true,Option.bind_some];by_cases h2:arN e i=2
 ·have o1:=(op_spec h hi (j:=0) (by omega)).1;have o2:=(op_spec h hi (j:=1) (by omega)).1;rw [if_pos h2,if_neg (by simp;omega),opL2 h2,idx0,idx1,Option.bind_some,idxN (by omega),Option.bind_some,ndAt_lt (by omega),Option.bind_some];rw [idxN (by omega),Option.bind_some,ndAt_lt (by omega),ref23_literal_s,ref23_literal_s];generalize ndAt e (opN e i 0)=a;generalize ndAt e (opN e i 1)=b;obtain⟨ao,an⟩:=a;obtain⟨bo,bn⟩:=b;by_cases ha:ao=7
  ·subst ha;cases hb:litB bo
   ·by_cases hb7:bo=7
    ·subst hb7;have:litB 7=false:=rfl;simp [this,simR]
    ·simp [hb7,simR]
   ·simp [simR]
  ·by_cases hb7:bo=7
   ·subst hb7;cases hl:litB ao<;>simp [ha,simR]
   ·simp [ha,hb7,simR]
 ·rw [if_neg h2,if_pos (by simp;omega)];rfl
def flatAt (e:List GNode) (i:Nat):Bool:=
 if cmpB (ndAt e i).Op=true then (simS e i).isSome else (ndAt e i).Op==1 || (ndAt e i).Op==23 || (ndAt e i).Op==24 || (ndAt e i).Op==25 || (ndAt e i).Op==7 || litB (ndAt e i).Op
noncomputable def flatB (e:List GNode) (s:GSignature):Bool:=
 decide ((typeS e s).2.2=0)&&((typeS e s).1.Kind==1&&(typeS e s).1.Enum==0)&&(ff (fun i=>if flatAt e i=true then none else some false) e.length).isNone
theorem type_wst {e:List GNode}{s:GSignature}(h:(typeS e s).2.2=0):Wst e:=by
 unfold typeS at h;split at h
 ·exact wst_of (by assumption)
 ·rename_i h0;exact(h0 h).elim
theorem sim_some {o:Option (Int×GNode)}:(simI o).2.2=o.isSome∧(simR o).2.2=o.isSome:=by cases o<;>exact⟨rfl,rfl⟩
theorem ff_false {f:Nat→Bool}{n:Nat}:(match (outR () (ff (fun i=>if f i=true then none else some false) n):Unit⊕Bool)with|.inr v=>some v|.inl _=>some true)=some (ff (fun i=>if f i=true then none else some false) n).isNone:=by
 cases h:ff (fun i=>if f i=true then none else some false) n with
 |none=>rfl
 |some v=>
  obtain⟨k,-,h2,-⟩:=ff_some.1 h;split at h2
  ·cases h2
  ·injection h2 with h2;subst h2;rfl
theorem cells_IsFlat_s {e:List GNode}(hN:∀n∈e,NodeOk n) (s:GSignature):cells_IsFlat e s=some (flatB e s):=by
 unfold cells_IsFlat flatB;rw [expr_TypeOf_s hN,Option.bind_some];by_cases h0:(typeS e s).2.2=0
 ·have hw:=type_wst h0;have hle:=hw.le;rw [if_pos h0,Option.bind_some,decide_eq_true h0];cases (typeS e s).1.Kind==1&&(typeS e s).1.Enum==0
  ·rfl
  ·simp only [Bool.not_true,Bool.false_eq_true,if_false,Bool.true_and];have hl:loopO (cells_IsFlat_L1 e) 0=some (outR () (ff (fun i=>if flatAt e i=true then none else some false) e.length)):=
    loopF (fun i=>(i:Int)) _ _ _ (fun i hi _=>by
     unfold cells_IsFlat_L1 flatAt;rw [if_pos (by omega),idxN hi,Option.bind_some,ndAt_lt hi,cells_isLiteral_s,cells_isComparison_s,cells_simple_s hw hi,wsucc (by omega)];simp only [Option.bind_some,sim_some.1];generalize (simS e i).isSome=c;generalize (ndAt e i).Op=op;by_cases k1:op=1
     ·subst k1;simp [cmpB,goR]
     by_cases k2:op=23
     ·subst k2;simp [cmpB,goR]
     by_cases k3:op=24
     ·subst k3;simp [cmpB,goR]
     by_cases k4:op=25
     ·subst k4;simp [cmpB,goR]
     by_cases k5:op=7
     ·subst k5;simp [cmpB,goR]
     cases hl:litB op
     ·cases hc:cmpB op
      ·simp [k1,k2,k3,k4,k5,goR]
      ·cases c<;>simp [k1,k2,k3,k4,k5,goR]
     ·have:cmpB op=false:=by
       unfold litB at hl;unfold cmpB;simp at hl⊢;omega
      simp [k1,k2,k3,k4,k5,this,goR]) (fun _=>by unfold cells_IsFlat_L1;simp)
   rw [hl];exact ff_false
 ·rw [if_neg h0,decide_eq_false h0];rfl
theorem ref23_IsFlat_s {e:List GNode}(hN:∀n∈e,NodeOk n) (s:GSignature):ref23_IsFlat e s=some (flatB e s):=by
 unfold ref23_IsFlat flatB;rw [ref10_TypeOf_s hN,Option.bind_some];by_cases h0:(typeS e s).2.2=0
 ·have hw:=type_wst h0;have hle:=hw.le;rw [if_pos h0,Option.bind_some,decide_eq_true h0];cases (typeS e s).1.Kind==1&&(typeS e s).1.Enum==0
  ·rfl
  ·simp only [Bool.not_true,Bool.false_eq_true,if_false,Bool.true_and];have hl:loopO (ref23_IsFlat_L1 e) 0=some (outR () (ff (fun i=>if flatAt e i=true then none else some false) e.length)):=
    loopF (fun i=>(i:Int)) _ _ _ (fun i hi _=>by
     unfold ref23_IsFlat_L1 flatAt;rw [if_pos (by omega),idxN hi,Option.bind_some,ndAt_lt hi,ref23_comparison_s,ref23_literal_s,ref23_simple_s hw hi,wsucc (by omega)];simp only [Option.bind_some,sim_some.2];cases hc:cmpB (ndAt e i).Op
     ·generalize (ndAt e i).Op=op;by_cases k1:op=1
      ·subst k1;simp [goR]
      by_cases k2:op=23
      ·subst k2;simp [goR]
      by_cases k3:op=24
      ·subst k3;simp [goR]
      by_cases k4:op=25
      ·subst k4;simp [goR]
      by_cases k5:op=7
      ·subst k5;simp [goR]
      cases litB op<;>simp [k1,k2,k3,k4,k5,goR]
     ·simp only [if_true];generalize (simS e i).isSome=c;cases c<;>rfl) (fun _=>by unfold ref23_IsFlat_L1;simp)
   rw [hl];exact ff_false
 ·rw [if_neg h0,decide_eq_false h0];rfl
end Go.Proofs.Dev
namespace Go.Proofs.Dev
open Go Go.Tm
theorem filter_take {l:List Int}{p:Int→Bool}{i:Nat}(hi:i<l.length):(l.take (i+1)).filter p=(l.take i).filter p++(if p l[i]=true then [l[i]]else []):=by
 rw [List.take_add_one,List.getElem?_eq_getElem hi,Option.toList_some,List.filter_append];by_cases h:p l[i]=true
 ·rw [if_pos h,List.filter_cons_of_pos h,List.filter_nil]
 ·rw [if_neg h,List.filter_cons_of_neg h,List.filter_nil]
theorem filter_len {l:List Int}{p:Int→Bool}{i:Nat}:((l.take i).filter p).length≤i:=by
 have:=List.length_filter_le p (l.take i);rw [List.length_take]at this;omega
theorem insert_inc {l:List Int}{n:Int}(h:Inc l):l.filter (fun x=>decide (x<n))++[n]++l.filter (fun x=>decide (n<x))=insS l n:=by
 refine inc_ext ?_ (inc_insS h) fun x=>?_
 ·rw [List.append_assoc];refine List.pairwise_append.2 ⟨h.filter _,?_,fun a ha b hb=>?_⟩
  ·refine List.pairwise_append.2 ⟨by simp,h.filter _,fun a ha b hb=>?_⟩;simp only [List.mem_singleton]at ha;simp only [List.mem_filter,decide_eq_true_eq]at hb;omega
  ·simp only [List.mem_filter,decide_eq_true_eq]at ha;simp only [List.mem_append,List.mem_singleton,List.mem_filter,decide_eq_true_eq]at hb;omega
 ·rw [mem_insS];simp only [List.mem_append,List.mem_singleton,List.mem_filter,decide_eq_true_eq];constructor
  ·rintro ((h|h)|h)
   ·exact .inl h.1
   ·exact .inr h
   ·exact .inl h.1
  ·rintro (h|h)
   ·rcases Int.lt_trichotomy x n with h1|h1|h1
    ·exact .inl (.inl ⟨h,h1⟩)
    ·exact .inl (.inr h1)
    ·exact .inr ⟨h,h1⟩
   ·exact .inl (.inr h)
theorem ref05_Insert_s {l:List Int}{n:Int}(h:Inc l) (hl:l.length≤1099511627776):ref05_Insert l n=some (insS l n):=by
 unfold ref05_Insert;have h1:loopO (ref05_Insert_L3 l n) (([]:List Int),0)=some (.inl (l.filter fun x=>decide (x<n))):=by
  refine loopG (fun i=>((l.take i).filter fun x=>decide (x<n),(i:Int))) l.length _ (fun i hi=>?_) (by unfold ref05_Insert_L3;simp) rfl;have:=filter_len (l:=l) (p:=fun x=>decide (x<n)) (i:=i);unfold ref05_Insert_L3;simp only;rw [if_pos (by omega),idxN hi,Option.bind_some,wsucc (by omega),filter_take hi];by_cases hx:l[i]<n
  ·rw [if_pos hx,if_pos (by simpa using hx),appS (by simp;omega)];rfl
  ·rw [if_neg hx,if_neg (by simpa using hx)];simp
 rw [h1,Option.bind_some];simp only;have hlen:=List.length_filter_le (fun x=>decide (x<n)) l;rw [appS (by simp;omega),Option.bind_some];have h2:loopO (ref05_Insert_L2 l n) (l.filter (fun x=>decide (x<n))++[n],0)=some (.inl (l.filter (fun x=>decide (x<n))++[n]++l.filter fun x=>decide (n<x))):=by
  refine loopG (fun i=>(l.filter (fun x=>decide (x<n))++[n]++(l.take i).filter fun x=>decide (n<x),(i:Int))) l.length _ (fun i hi=>?_) (by unfold ref05_Insert_L2;simp) (by simp);have:=filter_len (l:=l) (p:=fun x=>decide (n<x)) (i:=i);unfold ref05_Insert_L2;simp only;rw [if_pos (by omega),idxN hi,Option.bind_some,wsucc (by omega),filter_take hi];by_cases hx:n<l[i]
  ·rw [if_pos hx,if_pos (by simpa using hx),appS (by simp;omega)];simp
  ·rw [if_neg hx,if_neg (by simpa using hx)];simp
 rw [h2,Option.bind_some];simp only;rw [insert_inc h]
def cutAt (e:List GNode) (inp:Int) (i:Nat):List Int:=
 if cmpB (ndAt e i).Op=true then
  match simS e i with
  |some v=>if v.1=inp∧¬v.2.Op=6 then (if v.2.N<9223372036854775807 then [v.2.N,v.2.N+1]else [v.2.N])else []
  |none=>[]
 else []
theorem cutAt_len (e:List GNode) (inp:Int) (i:Nat):(cutAt e inp i).length≤2:=by
 unfold cutAt;split
 ·split
  ·split
   ·split<;>simp
   ·simp
  ·simp
 ·simp
def cutsTo (e:List GNode) (inp:Int):Nat→List Int
 |0=>[]
 |k+1=>cutsTo e inp k++cutAt e inp k
theorem cutsTo_len (e:List GNode) (inp:Int):∀k,(cutsTo e inp k).length≤2*k
 |0=>by simp [cutsTo]
 |k+1=>by
  have:=cutsTo_len e inp k;have:=cutAt_len e inp k;simp only [cutsTo,List.length_append];omega
def cutsAll (gs:List (List GNode)) (inp:Int):Nat→List Int
 |0=>[]
 |k+1=>cutsAll gs inp k++(match gs[k]? with|some e=>cutsTo e inp e.length|none=>[])
theorem cutsAll_len {gs:List (List GNode)}(hw:∀g∈gs,Wst g) (inp:Int):∀k,(cutsAll gs inp k).length≤96*k
 |0=>by simp [cutsAll]
 |k+1=>by
  have:=cutsAll_len hw inp k;simp only [cutsAll,List.length_append];split
  ·rename_i e he;have h1:=cutsTo_len e inp e.length;have h2:=(hw e (List.mem_of_getElem? he)).le;omega
  ·simp;omega
theorem sim_ok {e:List GNode}(hN:∀n∈e,NodeOk n) (hw:Wst e) {i:Nat}(hi:i<e.length) {v:Int×GNode}(hv:simS e i=some v):NodeOk v.2:=by
 unfold simS at hv;split at hv
 ·rename_i h2;have o1:=(op_spec hw hi (j:=0) (by omega)).1;have o2:=(op_spec hw hi (j:=1) (by omega)).1;split at hv
  ·injection hv with hv;subst hv;exact ndOk hN (by omega)
  ·split at hv
   ·injection hv with hv;subst hv;exact ndOk hN (by omega)
   ·cases hv
 ·cases hv
theorem cells_CutPoints_s {gs:List (List GNode)}(hg:gs.length≤1048576) (hw:∀g∈gs,Wst g) (hN:∀g∈gs,∀n∈g,NodeOk n) (inp:Int):cells_CutPoints gs inp=some (dsort (cutsAll gs inp gs.length)):=by
 unfold cells_CutPoints;have hl:loopO (cells_CutPoints_L5 gs inp) (([]:List Int),0)=some (.inl (cutsAll gs inp gs.length)):=by
  refine loopG (fun k=>(cutsAll gs inp k,(k:Int))) gs.length _ (fun k hk=>?_) (by unfold cells_CutPoints_L5;simp) rfl;have hlen:=cutsAll_len hw inp k;have hwk:=hw _ (List.getElem_mem hk);have hNk:=hN _ (List.getElem_mem hk);have hle:=hwk.le;unfold cells_CutPoints_L5 expr_Starts;simp only [cutsAll,List.getElem?_eq_getElem hk];rw [if_pos (by omega),idxN hk,Option.bind_some,wsucc (by omega)];generalize gs[k]=e at hwk hNk hle⊢;generalize cutsAll gs inp k=a at hlen⊢;rw [expr_structure_s,structS_ok hwk,Option.bind_some,Option.bind_some,if_neg (by simp)];have h2:loopO (cells_CutPoints_L4 inp e) (a,0)=some (.inl (a++cutsTo e inp e.length)):=by
   refine loopG (fun i=>(a++cutsTo e inp i,(i:Int))) e.length _ (fun i hi=>?_) (by unfold cells_CutPoints_L4;simp) (by simp [cutsTo]);have h3:=cutsTo_len e inp i;have hsim:=fun v (hv:simS e i=some v)=>sim_ok hNk hwk hi hv;unfold cells_CutPoints_L4;simp only [cutsTo,cutAt];rw [if_pos (by omega),idxN hi,Option.bind_some,ndAt_lt hi,cells_isComparison_s,Option.bind_some,cells_simple_s hwk hi,Option.bind_some,wsucc (by omega)];cases cmpB (ndAt e i).Op
   ·simp
   simp only [Bool.true_eq_false,if_false,if_true]
   cases hv:simS e i with
   |none=>simp [simI]
   |some v=>
    have hok:=hsim v hv;unfold NodeOk at hok;rw [show simI (some v)=(v.1,v.2,true)from rfl,if_pos rfl];dsimp only;by_cases hi2:v.1=inp
    ·by_cases h6:v.2.Op=6
     ·simp [hi2,h6]
     ·rw [if_pos hi2,if_pos ⟨hi2,h6⟩,Option.bind_some,if_neg (by simpa using h6),appS (by simp;omega),Option.bind_some];by_cases hm:v.2.N<9223372036854775807
      ·rw [if_pos hm,if_pos hm,wid (n:=v.2.N+1) (by omega) (by omega),appS (by simp;omega)];simp
      ·rw [if_neg hm,if_neg hm];simp
    ·simp [hi2]
  rw [h2,Option.bind_some];rfl
 have hlen:=cutsAll_len hw inp gs.length;rw [hl,Option.bind_some];simp only [slices_Sort_int_int,slices_Compact_int_int];rw [if_pos (by omega),Option.bind_some,if_pos (by simp;omega),Option.bind_some,compact_msort]
theorem dsort_app {a b:List Int}:dsort (a++b)=b.foldl insS (dsort a):=by unfold dsort;rw [List.foldl_append]
theorem ref23_CutPoints_s {gs:List (List GNode)}(hg:gs.length≤1048576) (hw:∀g∈gs,Wst g) (hN:∀g∈gs,∀n∈g,NodeOk n) (inp:Int):ref23_CutPoints gs inp=some (dsort (cutsAll gs inp gs.length)):=by
 unfold ref23_CutPoints;have hl:loopO (ref23_CutPoints_L9 gs inp) (([]:List Int),0)=some (.inl (dsort (cutsAll gs inp gs.length))):=by
  refine loopG (fun k=>(dsort (cutsAll gs inp k),(k:Int))) gs.length _ (fun k hk=>?_) (by unfold ref23_CutPoints_L9;simp) rfl;have hlen:=cutsAll_len hw inp k;have hwk:=hw _ (List.getElem_mem hk);have hNk:=hN _ (List.getElem_mem hk);have hle:=hwk.le;have h2:loopO (ref23_CutPoints_L8 gs inp (k:Int)) (dsort (cutsAll gs inp k),0)=some (.inl (dsort (cutsAll gs inp k++cutsTo gs[k] inp gs[k].length))):=by
   refine loopG (fun i=>(dsort (cutsAll gs inp k++cutsTo gs[k] inp i),(i:Int))) gs[k].length _ (fun i hi=>?_) ?_ (by simp [cutsTo])
   ·have h3:=cutsTo_len gs[k] inp i;have hsim:=fun v (hv:simS gs[k] i=some v)=>sim_ok hNk hwk hi hv;unfold ref23_CutPoints_L8;simp only;rw [idxN hk,Option.bind_some];simp only [cutsTo,cutAt];generalize gs[k]=e at hwk hNk hle hi h3 hsim⊢;rw [if_pos (by omega),ref23_simple_s hwk hi,Option.bind_some,wsucc (by omega)];have hd:=dsort_inv (cutsAll gs inp k++cutsTo e inp i);have hdl:(dsort (cutsAll gs inp k++cutsTo e inp i)).length≤1099511627776-10:=by
     have:=hd.2.1;rw [List.length_append]at this;omega
    rw [←List.append_assoc];generalize cutsAll gs inp k++cutsTo e inp i=a at hd hdl⊢;cases cmpB (ndAt e i).Op
    ·simp [simR]
    simp only [Bool.true_eq_false,if_false,if_true]
    cases hv:simS e i with
    |none=>simp [simR]
    |some v=>
     have hok:=hsim v hv;unfold NodeOk at hok;rw [show simR (some v)=(⟨7,v.1⟩,v.2,true)from rfl,if_pos rfl];dsimp only;by_cases hi2:v.1=inp
     ·by_cases h6:v.2.Op=6
      ·simp [hi2,h6]
      ·have hl1:=len_insS (n:=v.2.N) (l:=dsort a);rw [if_pos hi2,if_pos ⟨hi2,h6⟩,Option.bind_some,if_neg (by simpa using h6),ref05_Insert_s hd.1 (by omega),Option.bind_some];by_cases hm:v.2.N<9223372036854775807
       ·rw [wid (n:=v.2.N+1) (by omega) (by omega),if_pos (by omega),if_pos hm,ref05_Insert_s (inc_insS hd.1) (by omega),dsort_app];rfl
       ·have hmax:v.2.N=9223372036854775807:=by omega
        have hw:wrapF .i64 (v.2.N+1) = -9223372036854775808:=by rw [hmax];rfl
        rw [hw,if_neg (by omega),if_neg hm,dsort_app];rfl
     ·simp [hi2]
   ·unfold ref23_CutPoints_L8;simp only;rw [idxN hk,Option.bind_some,if_neg (by omega)]
  unfold ref23_CutPoints_L9;simp only [cutsAll,List.getElem?_eq_getElem hk];rw [if_pos (by omega),h2,Option.bind_some,wsucc (by omega)]
 rw [hl];rfl
end Go.Proofs.Dev
namespace Go.Proofs.Dev
open Go Go.Tm
def upTo (lo:Int):Nat→List Int
 |0=>[]
 |k+1=>upTo lo k++[lo+k]
theorem upTo_len (lo:Int):∀k,(upTo lo k).length=k
 |0=>rfl
 |k+1=>by simp [upTo,upTo_len lo k]
theorem reps_loop {p:Int×Int}(h:-1152921504606846976≤p.1∧p.2≤1152921504606846976) (hs:p.2-p.1≤1099511627776):loopO (cells_Representatives_L3 p) (([]:List Int),p.1)=some (.inl (upTo p.1 (p.2-p.1+1).toNat)):=by
 refine loopG (fun k=>(upTo p.1 k,p.1+k)) (p.2-p.1+1).toNat _ (fun k hk=>?_) ?_ (by simp [upTo])
 ·have:=upTo_len p.1 k;unfold cells_Representatives_L3;simp only;rw [if_pos (by omega),appS (by simp;omega),Option.bind_some,wid (by omega) (by omega)];simp only [upTo];congr 3;omega
 ·unfold cells_Representatives_L3;simp only;rw [if_neg (by omega)]
noncomputable def repS (t:GType) (e:List GEnum) (cuts:List Int):List Int:=
 if (bnd t e).2<(bnd t e).1 then []
 else if t.Kind=1∨t.Kind=6 then upTo (bnd t e).1 ((bnd t e).2-(bnd t e).1+1).toNat
 else dsort ([(bnd t e).1]++cuts.filter fun c=>decide ((bnd t e).1≤c)&&decide (c≤(bnd t e).2))
theorem bnd_bound {t:GType}{e:List GEnum}(he:∀x∈e,x.Members.length≤1048576):-1000000000000000≤(bnd t e).1∧(bnd t e).2≤1000000000000000∧((t.Kind=1∨t.Kind=6)→(bnd t e).1=0∧(bnd t e).2≤1048576)∧(validTypeB t e=false→(bnd t e).2<(bnd t e).1)∧(validTypeB t e=true→t.Kind≠6→(bnd t e).1<(bnd t e).2):=by
 have hb:=ref09_Bounds_s t e;unfold ref09_Bounds at hb;rw [ref09_ValidType_s,Option.bind_some]at hb
 cases hv:validTypeB t e with
 |false=>
  rw [hv]at hb;simp only [if_true]at hb;injection hb with hb;rw [←hb];simp
 |true=>
  rw [hv]at hb;simp only [Bool.true_eq_false,if_false]at hb;by_cases h1:t.Kind=1
  ·rw [if_pos h1]at hb;injection hb with hb;rw [←hb];simp
  by_cases h2:t.Kind=2
  ·rw [if_neg h1,if_pos h2]at hb;injection hb with hb;rw [←hb];simp [h2]
  by_cases h3:t.Kind=3
  ·rw [if_neg h1,if_neg h2,if_pos h3]at hb;injection hb with hb;rw [←hb];simp [h3]
  by_cases h4:t.Kind=4
  ·rw [if_neg h1,if_neg h2,if_neg h3,if_pos h4]at hb;injection hb with hb;rw [←hb];simp [h4]
  by_cases h5:t.Kind=5
  ·rw [if_neg h1,if_neg h2,if_neg h3,if_neg h4,if_pos h5]at hb;injection hb with hb;rw [←hb];simp [h5]
  ·rw [if_neg h1,if_neg h2,if_neg h3,if_neg h4,if_neg h5]at hb;have h6:t.Kind=6:=by
    unfold validTypeB at hv;split at hv
    ·assumption
    ·simp at hv;omega
   unfold validTypeB at hv;rw [if_pos h6]at hv;simp at hv;have hm:=he _ (List.getElem_mem (l:=e) (n:=t.Enum.toNat) (by omega));rw [idxI hv.1 hv.2,Option.bind_some,wid (by omega) (by omega)]at hb;injection hb with hb;rw [←hb];refine⟨by simp,by simp only;omega,fun _=>⟨rfl,by simp only;omega⟩,by simp,fun _ h=>(h h6).elim⟩
theorem cells_Representatives_s {t:GType}{e:List GEnum}(he:∀x∈e,x.Members.length≤1048576) {cuts:List Int}(hc:cuts.length≤1099511627):cells_Representatives t e cuts=some (repS t e cuts):=by
 obtain⟨b1,b2,b3,b4,b5⟩:=bnd_bound (t:=t) he;unfold cells_Representatives repS;rw [value_ValidType_s,Option.bind_some,value_Bounds_s,Option.bind_some]
 cases hv:validTypeB t e with
 |false=>rw [if_pos rfl,if_pos (b4 hv)]
 |true=>
  rw [if_neg (by simp)];have hk:(if¬t.Kind=1 then some (t.Kind==6)else some true)=some (decide (t.Kind=1∨t.Kind=6)):=by
   by_cases h1:t.Kind=1
   ·simp [h1]
   ·simp [h1,BEq.beq]
  rw [hk,Option.bind_some];by_cases hk2:t.Kind=1∨t.Kind=6
  ·obtain⟨q1,q2⟩:=b3 hk2;rw [if_pos (by simpa using hk2),reps_loop ⟨by omega,by omega⟩ (by omega),Option.bind_some,if_pos hk2];by_cases hlt:(bnd t e).2<(bnd t e).1
   ·rw [if_pos hlt,show ((bnd t e).2-(bnd t e).1+1).toNat=0 by omega];rfl
   ·rw [if_neg hlt]
  ·have hlt:=b5 hv (fun h=>hk2 (.inr h));rw [if_neg (by simpa using hk2),if_neg (by omega),if_neg hk2];have hl:loopO (cells_Representatives_L5 cuts (bnd t e)) ([(bnd t e).1],0)=some (.inl ([(bnd t e).1]++cuts.filter fun c=>decide ((bnd t e).1≤c)&&decide (c≤(bnd t e).2))):=by
    refine loopG (fun i=>([(bnd t e).1]++(cuts.take i).filter (fun c=>decide ((bnd t e).1≤c)&&decide (c≤(bnd t e).2)),(i:Int))) cuts.length _ (fun i hi=>?_) (by unfold cells_Representatives_L5;simp) (by simp);have:=filter_len (l:=cuts) (p:=fun c=>decide ((bnd t e).1≤c)&&decide (c≤(bnd t e).2)) (i:=i);unfold cells_Representatives_L5;simp only;rw [if_pos (by omega),idxN hi,Option.bind_some,wsucc (by omega),filter_take hi];generalize cuts[i]=c;by_cases c1:(bnd t e).1≤c
    ·by_cases c2:c≤(bnd t e).2
     ·rw [if_pos c1,Option.bind_some,decide_eq_true c2,if_pos rfl,appS (by simp;omega)];simp [c1]
     ·simp [c1,c2]
    ·simp [c1]
   have:=List.length_filter_le (fun c=>decide ((bnd t e).1≤c)&&decide (c≤(bnd t e).2)) cuts;rw [hl,Option.bind_some];simp only [slices_Sort_int_int,slices_Compact_int_int];rw [if_pos (by simp;omega),Option.bind_some,if_pos (by simp;omega),Option.bind_some,compact_msort]
theorem ref23_Representatives_s {t:GType}{e:List GEnum}(he:∀x∈e,x.Members.length≤1048576) {cuts:List Int}(hc:cuts.length≤1099511627):ref23_Representatives t e cuts=some (repS t e cuts):=by
 obtain⟨b1,b2,b3,b4,b5⟩:=bnd_bound (t:=t) he;unfold ref23_Representatives repS;rw [ref09_Bounds_s,Option.bind_some];by_cases hlt:(bnd t e).2<(bnd t e).1
 ·rw [if_pos hlt,if_pos hlt]
 rw [if_neg hlt,if_neg hlt];have hk:(if¬t.Kind=1 then some (t.Kind==6)else some true)=some (decide (t.Kind=1∨t.Kind=6)):=by
  by_cases h1:t.Kind=1
  ·simp [h1]
  ·simp [h1,BEq.beq]
 rw [hk,Option.bind_some];by_cases hk2:t.Kind=1∨t.Kind=6
 ·obtain⟨q1,q2⟩:=b3 hk2;have hr:loopO (ref23_Representatives_L3 (bnd t e)) (([]:List Int),(bnd t e).1)=some (.inl (upTo (bnd t e).1 ((bnd t e).2-(bnd t e).1+1).toNat)):=reps_loop ⟨by omega,by omega⟩ (by omega);rw [if_pos (by simpa using hk2),hr,if_pos hk2];rfl
 ·rw [if_neg (by simpa using hk2),if_neg hk2];have hl:loopO (ref23_Representatives_L5 cuts (bnd t e)) ([(bnd t e).1],0)=some (.inl (dsort ([(bnd t e).1]++cuts.filter fun c=>decide ((bnd t e).1≤c)&&decide (c≤(bnd t e).2)))):=by
   refine loopG (fun i=>(dsort ([(bnd t e).1]++(cuts.take i).filter (fun c=>decide ((bnd t e).1≤c)&&decide (c≤(bnd t e).2))),(i:Int))) cuts.length _ (fun i hi=>?_) (by unfold ref23_Representatives_L5;simp) (by simp [dsort,insS]);have h1:=filter_len (l:=cuts) (p:=fun c=>decide ((bnd t e).1≤c)&&decide (c≤(bnd t e).2)) (i:=i);have h2:=dsort_inv ([(bnd t e).1]++(cuts.take i).filter (fun c=>decide ((bnd t e).1≤c)&&decide (c≤(bnd t e).2)));have h3:=h2.2.1;rw [List.length_append,List.length_singleton]at h3;unfold ref23_Representatives_L5;simp only;rw [if_pos (by omega),idxN hi,Option.bind_some,wsucc (by omega),filter_take hi,←List.append_assoc];generalize cuts[i]=c;by_cases c1:(bnd t e).1≤c
   ·by_cases c2:c≤(bnd t e).2
    ·rw [if_pos c1,Option.bind_some,decide_eq_true c2,if_pos rfl,Option.bind_some,ref05_Insert_s h2.1 (by omega),decide_eq_true c1,if_pos (show (true&&true)=true from rfl),dsort_snoc];rfl
    ·simp [c1,c2]
   ·simp [c1]
  rw [hl];rfl
def prodS (g:List (List Int)):Nat→Int
 |0=>1
 |k+1=>match g[k]? with|some l=>if prodS g k≤4096 then prodS g k*(l.length:Int)else prodS g k|none=>prodS g k
theorem prodS_bound {g:List (List Int)}(hl:∀l∈g,0<l.length∧l.length≤1099511627776):∀k,1≤prodS g k∧prodS g k≤4503599627370496
 |0=>by simp [prodS]
 |k+1=>by
  have ih:=prodS_bound hl k;unfold prodS;split
  ·rename_i l h;have:=hl l (List.mem_of_getElem? h);split
   ·rename_i hle;constructor
    ·have:(1:Int)*1≤prodS g k*(l.length:Int):=Int.mul_le_mul ih.1 (by omega) (by omega) (by omega);omega
    ·have:prodS g k*(l.length:Int)≤4096*1099511627776:=Int.mul_le_mul hle (by omega) (by omega) (by omega);omega
   ·exact ih
  ·exact ih
def countS (g:List (List Int)):Int:=if (g.any fun l=>decide (l.length=0))=true then 0 else min (prodS g g.length) 4097
theorem any_zero {g:List (List Int)}(h:(g.any fun l=>decide (l.length=0))=false) {l:List Int}(hl:l∈g):0<l.length:=by
 have:=List.any_eq_false.1 h l hl;simp only [decide_eq_true_eq]at this;omega
theorem cells_Count_s {g:List (List Int)}(hg:g.length≤1048576) (hl:∀l∈g,l.length≤1099511627776):cells_Count g=some (countS g):=by
 unfold cells_Count countS;have key:∀k,k≤g.length→(∀j (hj:j<k) (hjl:j<g.length),g[j].length≠0)→prodS g k≤4503599627370496∧1≤prodS g k:=by
  intro k hk hz
  induction k with
  |zero=>simp [prodS]
  |succ k ih=>
   have ih:=ih (by omega) fun j hj hjl=>hz j (by omega) hjl;have hlt:k<g.length:=by omega
   have h1:=hl _ (List.getElem_mem hlt);have h2:=hz k (by omega) hlt;unfold prodS;rw [List.getElem?_eq_getElem hlt];dsimp only;split
   ·rename_i hle;constructor
    ·have:prodS g k*(g[k].length:Int)≤4096*1099511627776:=Int.mul_le_mul hle (by omega) (by omega) (by omega);omega
    ·have:(1:Int)*1≤prodS g k*(g[k].length:Int):=Int.mul_le_mul ih.2 (by omega) (by omega) (by omega);omega
   ·exact ih
 have h1:loopO (cells_Count_L1 g) (1,0)=some (outR (prodS g g.length) (ff (fun i=>if (g[i]?.any fun l=>decide (l.length=0))=true then some 0 else none) g.length)):=by
  refine loopF (fun k=>(prodS g k,(k:Int))) _ _ _ (fun k hk hf=>?_) (fun _=>by unfold cells_Count_L1;simp) rfl;obtain⟨p1,p2⟩:=key k (by omega) fun j hj hjl hz=>by
   have:=hf j hj;rw [List.getElem?_eq_getElem hjl]at this;simp only [Option.any_some,hz,decide_true,if_true]at this;cases this
  have hlk:=hl _ (List.getElem_mem hk);unfold cells_Count_L1;simp only [prodS,List.getElem?_eq_getElem hk,Option.any_some,decide_eq_true_eq];rw [if_pos (by omega),idxN hk,Option.bind_some,wsucc (by omega)];by_cases h0:g[k].length=0
  ·rw [if_pos (by omega),if_pos h0];rfl
  ·rw [if_neg (by omega),if_neg h0];by_cases hle:prodS g k≤4096
   ·have:prodS g k*(g[k].length:Int)≤4096*1099511627776:=Int.mul_le_mul hle (by omega) (by omega) (by omega);have:(0:Int)≤prodS g k*(g[k].length:Int):=Int.mul_nonneg (by omega) (by omega);rw [if_pos hle,if_pos hle,wid (by omega) (by omega)];rfl
   ·rw [if_neg hle,if_neg hle];rfl
 rw [h1,←ff_any (l:=g) (q:=fun l=>decide (l.length=0)) (g:=fun _=>(0:Int)),Option.bind_some]
 cases hf:ff (fun i=>if (g[i]?.any fun l=>decide (l.length=0))=true then some (0:Int)else none) g.length with
 |none=>rfl
 |some v=>
  obtain⟨j,-,j2,-⟩:=ff_some.1 hf;split at j2
  ·injection j2 with j2;subst j2;rfl
  ·cases j2
theorem ref23_Count_s {g:List (List Int)}(hg:g.length≤1048576) (hl:∀l∈g,l.length≤1099511627776):ref23_Count g=some (countS g):=by
 unfold ref23_Count countS;have h1:loopO (ref23_Count_L3 g) 0=some (outR () (ff (fun i=>if (g[i]?.any fun l=>decide (l.length=0))=true then some 0 else none) g.length)):=by
  refine loopF (fun k=>(k:Int)) _ _ _ (fun k hk hf=>?_) (fun _=>by unfold ref23_Count_L3;simp) rfl;unfold ref23_Count_L3;simp only [List.getElem?_eq_getElem hk,Option.any_some,decide_eq_true_eq];rw [if_pos (by omega),idxN hk,Option.bind_some,wsucc (by omega)];by_cases h0:g[k].length=0
  ·rw [if_pos (by omega),if_pos h0];rfl
  ·rw [if_neg (by omega),if_neg h0];rfl
 have hany:=ff_any (l:=g) (q:=fun l=>decide (l.length=0)) (g:=fun _=>(0:Int));rw [h1,←hany,Option.bind_some]
 cases hf:ff (fun i=>if (g[i]?.any fun l=>decide (l.length=0))=true then some (0:Int)else none) g.length with
 |some v=>
  obtain⟨j,-,j2,-⟩:=ff_some.1 hf;split at j2
  ·injection j2 with j2;subst j2;rfl
  ·cases j2
 |none=>
  rw [hf]at hany;have hz:∀l∈g,0<l.length∧l.length≤1099511627776:=fun l hlm=>⟨any_zero hany.symm hlm,hl l hlm⟩;have hb:=prodS_bound hz;have stay:∀n k,¬prodS g k≤4096→prodS g (k+n)=prodS g k:=by
   intro n k hk
   induction n with
   |zero=>rfl
   |succ n ih=>
    rw [←Nat.add_assoc];simp only [prodS];split
    ·rw [ih,if_neg hk]
    ·exact ih
  have h2:loopO (ref23_Count_L2 g) (1,0)=some (.inl (prodS g g.length)):=by
   have hstep:∀k,k<g.length→prodS g k≤4096→ref23_Count_L2 g (prodS g k,(k:Int))=some (.go (prodS g (k+1),((k+1:Nat):Int))):=by
    intro k hk hle;have hlk:=hz _ (List.getElem_mem hk);have:=hb k;have h3:prodS g k*(g[k].length:Int)≤4096*1099511627776:=Int.mul_le_mul hle (by omega) (by omega) (by omega);have h4:(0:Int)≤prodS g k*(g[k].length:Int):=Int.mul_nonneg (by omega) (by omega);unfold ref23_Count_L2;simp only [prodS,List.getElem?_eq_getElem hk];rw [if_pos (by omega),Option.bind_some,if_pos (by simpa using hle),idxN hk,Option.bind_some,wsucc (by omega),wid (by omega) (by omega),if_pos hle]
   by_cases hall:∀k,k<g.length→prodS g k≤4096
   ·exact loopG (fun k=>(prodS g k,(k:Int))) g.length _ (fun k hk=>hstep k hk (hall k hk)) (by unfold ref23_Count_L2;simp) rfl
   ·obtain⟨k,k1,k2,k3⟩:∃k,k<g.length∧¬prodS g k≤4096∧∀j,j<k→prodS g j≤4096:=by
     have:∀n,(∃k,k<n∧¬prodS g k≤4096)→∃k,k<n∧¬prodS g k≤4096∧∀j,j<k→prodS g j≤4096:=by
      intro n
      induction n with
      |zero=>rintro ⟨k,h,-⟩;omega
      |succ n ih=>
       rintro ⟨k,h,hk⟩;by_cases he:∃k,k<n∧¬prodS g k≤4096
       ·obtain⟨k,a,b,c⟩:=ih he;exact⟨k,by omega,b,c⟩
       ·refine⟨k,h,hk,fun j hj=>Classical.byContradiction fun hn=>he ⟨j,by omega,hn⟩⟩
     refine this _ ?_;obtain⟨k,hk⟩:=Classical.not_forall.1 hall;obtain⟨a,b⟩:=Classical.not_imp.1 hk;exact⟨k,a,b⟩
    have he:prodS g g.length=prodS g k:=by
     have:=stay (g.length-k) k k2;rwa [show k+(g.length-k)=g.length by omega]at this
    rw [he];refine loopG (fun j=>(prodS g j,(j:Int))) k _ (fun j hj=>hstep j (by omega) (k3 j hj)) ?_ rfl;unfold ref23_Count_L2;simp only;rw [if_pos (by omega),Option.bind_some,if_neg (by simpa using k2)]
  simp only [outR];rw [h2];rfl
def refersB (gs:List (List GNode)) (i:Int):Bool:=gs.any fun g=>g.any fun n=>decide (n.Op=7∧n.N=i)
theorem has_node {l:List GNode}(hl:l.length≤1048576) (i:Int):slices_Contains_api_Node_api_Node l (GNode.mk 7 i)=some (l.any fun n=>decide (n.Op=7∧n.N=i)):=by
 have h:=containsF (l:=l) (p:=fun x=>some (decide (7=x.Op∧i=x.N))) (fun n=>decide (n.Op=7∧n.N=i)) (fun x _=>by simp [eq_comm]) (by omega) (o:=loopO (slices_Index_api_Node_api_Node_L1 l (GNode.mk 7 i)) 0) (by
  unfold slices_Index_api_Node_api_Node_L1;simp only [Option.bind_some,decide_eq_true_eq])
 exact h
theorem coverage_refersTo_s {gs:List (List GNode)}(hg:gs.length≤1048576) (hl:∀g∈gs,g.length≤1048576) (i:Int):coverage_refersTo gs i=some (refersB gs i):=by
 unfold coverage_refersTo refersB;have h1:loopO (coverage_refersTo_L1 gs i) 0=some (outR () (ff (fun k=>if (gs[k]?.any fun g=>g.any fun n=>decide (n.Op=7∧n.N=i))=true then some true else none) gs.length)):=by
  refine loopF (fun k=>(k:Int)) _ _ _ (fun k hk _=>?_) (fun _=>by unfold coverage_refersTo_L1;simp) rfl;unfold coverage_refersTo_L1;rw [if_pos (by omega),idxN hk,Option.bind_some,has_node (hl _ (List.getElem_mem hk)),Option.bind_some,wsucc (by omega),List.getElem?_eq_getElem hk,Option.any_some];cases gs[k].any fun n=>decide (n.Op=7∧n.N=i)<;>rfl
 rw [h1,←ff_any (g:=fun _=>true),Option.bind_some]
 cases hf:ff (fun k=>if (gs[k]?.any fun g=>g.any fun n=>decide (n.Op=7∧n.N=i))=true then some true else none) gs.length with
 |none=>rfl
 |some v=>
  obtain⟨j,-,j2,-⟩:=ff_some.1 hf;split at j2
  ·injection j2 with j2;subst j2;rfl
  ·cases j2
theorem ref24_refers_s {gs:List (List GNode)}(hg:gs.length≤1048576) (hl:∀g∈gs,g.length≤1048576) (i:Int):ref24_refers gs i=some (refersB gs i):=by
 unfold ref24_refers refersB;have h1:loopO (ref24_refers_L9 gs i) 0=some (outR () (ff (fun k=>if (gs[k]?.any fun g=>g.any fun n=>decide (n.Op=7∧n.N=i))=true then some true else none) gs.length)):=by
  refine loopF (fun k=>(k:Int)) _ _ _ (fun k hk _=>?_) (fun _=>by unfold ref24_refers_L9;simp) rfl;have hlk:=hl _ (List.getElem_mem hk);have h2:loopO (ref24_refers_L8 gs i (k:Int)) 0=some (outR () (ff (fun j=>if (gs[k][j]?.any fun n=>decide (n.Op=7∧n.N=i))=true then some (Ex.ret true)else none) gs[k].length)):=by
   refine loopF (fun j=>(j:Int)) _ _ _ (fun j hj _=>?_) (fun _=>by unfold ref24_refers_L8;rw [idxN hk,Option.bind_some,if_neg (by omega)]) rfl;unfold ref24_refers_L8;rw [idxN hk,Option.bind_some,if_pos (by omega),idxN hj,Option.bind_some,wsucc (by omega),List.getElem?_eq_getElem hj,Option.any_some];generalize gs[k][j]=n;by_cases n1:n.Op=7<;>by_cases n2:n.N=i<;>simp [n1,n2,goR]
  unfold ref24_refers_L9;rw [if_pos (by omega),h2,Option.bind_some,wsucc (by omega),List.getElem?_eq_getElem hk,Option.any_some,←ff_any (g:=fun _=>(Ex.ret true:Ex Int Unit Bool))]
  cases hf:ff (fun j=>if (gs[k][j]?.any fun n=>decide (n.Op=7∧n.N=i))=true then some (Ex.ret true:Ex Int Unit Bool)else none) gs[k].length with
  |none=>rfl
  |some v=>
   obtain⟨j,-,j2,-⟩:=ff_some.1 hf;split at j2
   ·injection j2 with j2;subst j2;rfl
   ·cases j2
 rw [h1,←ff_any (g:=fun _=>true),Option.bind_some]
 cases hf:ff (fun k=>if (gs[k]?.any fun g=>g.any fun n=>decide (n.Op=7∧n.N=i))=true then some true else none) gs.length with
 |none=>rfl
 |some v=>
  obtain⟨j,-,j2,-⟩:=ff_some.1 hf;split at j2
  ·injection j2 with j2;subst j2;rfl
  ·cases j2
theorem same_Ints_refl {l:List Int}(hl:l.length≤1099511627776):same_Ints l l=some true:=by
 unfold same_Ints;rw [if_neg (by simp)];have:loopO (same_Ints_L1 l l) 0=some (.inl ()):=loopG (fun k=>(k:Int)) l.length () (fun k hk=>by
  unfold same_Ints_L1;rw [if_pos (by omega),Option.bind_some,if_pos (by simpa using hk),idxN hk,Option.bind_some,Option.bind_some,if_neg (by simp),wsucc (by omega)]) (by unfold same_Ints_L1;simp) rfl
 rw [this];rfl
theorem same_IntLists_refl {l:List (List Int)}(hl:l.length≤1099511627776) (hm:∀x∈l,x.length≤1099511627776):same_IntLists l l=some true:=by
 unfold same_IntLists;rw [if_neg (by simp)];have:loopO (same_IntLists_L1 l l) 0=some (.inl ()):=loopG (fun k=>(k:Int)) l.length () (fun k hk=>by
  unfold same_IntLists_L1;rw [if_pos (by omega),Option.bind_some,if_pos (by simpa using hk),idxN hk,Option.bind_some,Option.bind_some,same_Ints_refl (hm _ (List.getElem_mem hk)),Option.bind_some,if_neg (by simp),wsucc (by omega)]) (by unfold same_IntLists_L1;simp) rfl
 rw [this];rfl
end Go.Proofs.Dev
namespace Go.Proofs.Dev
open Go Go.Tm
structure Valid (l:GLaw):Prop where
 e:∀i (h:i<l.Enums.length),(enumE l i l.Enums[i]).1=0
 t:∀i (h:i<l.Tables.length),(tabE l i l.Tables[i]).1=0
 s:∀i (h:i<l.Scopes.length),(scopeE l i l.Scopes[i]).1=0
 ne:l.Enums.length≤8
 nt:l.Tables.length≤8
 ns:l.Scopes.length≤4
theorem valid_of {l:GLaw}(h:(validE l).Code=0):Valid l:=by
 unfold validE at h;split at h
 ·simp at h
 rename_i h1;split at h
 ·rename_i v hv;exact(ff_code (f:=fun i=>match l.Enums[i]? with|some x=>if (enumE l i x).1=0 then none else some (⟨(enumE l i x).1,1,(i:Int),(enumE l i x).2⟩:GLawError)|none=>none) e_code hv h).elim
 rename_i he;split at h
 ·simp at h
 rename_i h2;split at h
 ·rename_i v hv;exact(ff_code (f:=fun i=>match l.Tables[i]? with|some x=>if (tabE l i x).1=0 then none else some (⟨(tabE l i x).1,2,(i:Int),(tabE l i x).2⟩:GLawError)|none=>none) t_code hv h).elim
 rename_i ht;split at h
 ·simp at h
 rename_i h3;refine⟨fun i hi=>?_,fun i hi=>?_,fun i hi=>?_,by omega,by omega,by omega⟩
 ·have:=ff_none.1 he i hi;rw [List.getElem?_eq_getElem hi]at this;dsimp only at this;split at this
  ·assumption
  ·cases this
 ·have:=ff_none.1 ht i hi;rw [List.getElem?_eq_getElem hi]at this;dsimp only at this;split at this
  ·assumption
  ·cases this
 ·generalize hf:ff _ l.Scopes.length=o at h
  cases o with
  |some v=>
   rw [Option.getD_some]at h;obtain⟨k,k1,k2,-⟩:=ff_some.1 hf;rw [List.getElem?_eq_getElem k1]at k2;dsimp only at k2;split at k2
   ·cases k2
   ·rename_i hne;injection k2 with k2;subst k2;exact(hne h).elim
  |none=>
   have:=ff_none.1 hf i hi;rw [List.getElem?_eq_getElem hi]at this;dsimp only at this;split at this
   ·assumption
   ·cases this
theorem Valid.mem {l:GLaw}(h:Valid l):∀x∈l.Enums,x.Members.length≤16:=by
 intro x hx;obtain⟨i,hi,rfl⟩:=List.getElem_of_mem hx;have:=h.e i hi;unfold enumE at this;split at this
 ·simp at this
 split at this
 ·simp at this
 split at this
 ·simp at this
 split at this
 ·simp at this
 ·omega
theorem Valid.rows {l:GLaw}(h:Valid l):∀x∈l.Tables,x.Rows.length≤64:=by
 intro x hx;obtain⟨i,hi,rfl⟩:=List.getElem_of_mem hx;have:=h.t i hi;unfold tabE at this;split at this
 ·simp at this
 split at this
 ·simp at this
 split at this
 ·rename_i h2;unfold tableV at h2;split at h2
  ·simp at h2
  ·omega
 ·rename_i h2;exact(h2 this).elim
noncomputable def rowG (l:GLaw) (gs:List (List GNode)) (f:GField) (i:Nat):List Int:=if refersB gs i=true then repS f.Type_ l.Enums (dsort (cutsAll gs i gs.length))else [0]
noncomputable def gridTo (l:GLaw) (gs:List (List GNode)) (s:GScope):Nat→List (List Int)
 |0=>[]
 |k+1=>gridTo l gs s k++(match s.Inputs[k]? with|some f=>[rowG l gs f k]|none=>[])
noncomputable def gridS (l:GLaw) (sc def_ date:Int):List (List Int)×Int:=
 if¬(validE l).Code=0 then ([],1)
 else if sc<0∨(l.Scopes.length:Int)≤sc then ([],6)
 else match l.Scopes[sc.toNat]? with
  |none=>([],6)
  |some s=>
   if def_<0∨(s.Defs.length:Int)≤def_ then ([],6)
   else if date<0∨109572<date then ([],3)
   else if ((gdOn s def_ date).any fun g=>!flatB g (sigS l s))=true then ([],17)
   else if 4096<countS (gridTo l (gdOn s def_ date) s s.Inputs.length)then ([],4)
   else (gridTo l (gdOn s def_ date) s s.Inputs.length,0)
theorem flat_wst {e:List GNode}{s:GSignature}(h:flatB e s=true):Wst e:=by
 unfold flatB at h;simp only [Bool.and_eq_true,decide_eq_true_eq]at h;exact type_wst h.1.1
theorem dsort_len_cuts {gs:List (List GNode)}(hg:gs.length≤1048576) (hw:∀g∈gs,Wst g) (i:Int):(dsort (cutsAll gs i gs.length)).length≤1099511627:=by
 have h1:=(dsort_inv (cutsAll gs i gs.length)).2.1;have h2:=cutsAll_len hw i gs.length;omega
theorem rowG_len {l:GLaw}(hm:∀x∈l.Enums,x.Members.length≤16) {gs:List (List GNode)}(hg:gs.length≤1048576) (hw:∀g∈gs,Wst g) (f:GField) (i:Nat):(rowG l gs f i).length≤1099511628:=by
 unfold rowG;split
 ·have h1:=dsort_len_cuts hg hw (i:Int);unfold repS;split
  ·simp
  ·rename_i hlt;split
   ·rename_i hk;obtain⟨b1,b2,b3,b4,b5⟩:=bnd_bound (t:=f.Type_) (e:=l.Enums) fun x hx=>by have:=hm x hx;omega
    obtain⟨q1,q2⟩:=b3 hk;rw [upTo_len];omega
   ·have h2:=(dsort_inv ([(bnd f.Type_ l.Enums).1]++(dsort (cutsAll gs i gs.length)).filter fun c=>decide ((bnd f.Type_ l.Enums).1≤c)&&decide (c≤(bnd f.Type_ l.Enums).2))).2.1;have h3:=List.length_filter_le (fun c=>decide ((bnd f.Type_ l.Enums).1≤c)&&decide (c≤(bnd f.Type_ l.Enums).2)) (dsort (cutsAll gs i gs.length));rw [List.length_append,List.length_singleton]at h2;omega
 ·simp
theorem gridTo_inv {l:GLaw}(hm:∀x∈l.Enums,x.Members.length≤16) {gs:List (List GNode)}(hg:gs.length≤1048576) (hw:∀g∈gs,Wst g) (s:GScope):∀k,(gridTo l gs s k).length≤k∧∀r∈gridTo l gs s k,r.length≤1099511628
 |0=>by simp [gridTo]
 |k+1=>by
  obtain⟨h1,h2⟩:=gridTo_inv hm hg hw s k;simp only [gridTo];split
  ·rename_i f hf;refine⟨by simp;omega,fun r hr=>?_⟩;rcases List.mem_append.1 hr with hr|hr
   ·exact h2 r hr
   ·simp only [List.mem_singleton]at hr;subst hr;exact rowG_len hm hg hw f k
  ·exact⟨by simp;omega,by simpa using h2⟩
theorem cond2 {sc:Int}{n:Nat}{d:Int}{l:GLaw}{o:Option Bool}(ho:o=(if¬sc<0 then if¬(l.Scopes.length:Int)≤sc then if¬d<0 then (idx l.Scopes sc).bind fun x=>some (decide ((x.Defs.length:Int)≤d))else some true else some true else some true)) :
 o=some (if sc<0∨(l.Scopes.length:Int)≤sc then true else match l.Scopes[sc.toNat]? with|none=>true|some s=>decide (d<0∨(s.Defs.length:Int)≤d)):=by
 rw [ho];by_cases h1:sc<0
 ·simp [h1]
 by_cases h2:(l.Scopes.length:Int)≤sc
 ·simp [h1,h2]
 rw [if_pos h1,if_pos h2,if_neg (show¬(sc<0∨(l.Scopes.length:Int)≤sc) by omega),idxI (by omega) (by omega),List.getElem?_eq_getElem (by omega)];by_cases h3:d<0
 ·simp [h3]
 ·rw [if_pos h3,Option.bind_some];simp [h3]
theorem any_flat {gs:List (List GNode)}{s:GSignature}{p:List GNode→GSignature→Option Bool}(hp:∀g∈gs,p g s=some (flatB g s)) (hg:gs.length≤1048576) {step:Int→Option (Ex Int Unit (List (List Int)×Int))}
 (hstep:∀i (hi:i<gs.length),step (i:Int)=(p gs[i] s).bind fun x=>if x=false then some (.ret ([],17))else some (.go (wrapF .i64 ((i:Int)+1)))) (hend:step (gs.length:Int)=some (.brk ())) :
 loopO step 0=some (if (gs.any fun g=>!flatB g s)=true then .inr ([],17)else .inl ()):=by
 have h1:loopO step 0=some (outR () (ff (fun i=>if (gs[i]?.any fun g=>!flatB g s)=true then some (([],17):List (List Int)×Int)else none) gs.length)):=by
  refine loopF (fun k=>(k:Int)) _ _ _ (fun k hk _=>?_) (fun _=>hend) rfl;rw [hstep k hk,hp _ (List.getElem_mem hk),Option.bind_some,wsucc (by omega),List.getElem?_eq_getElem hk,Option.any_some];cases flatB gs[k] s<;>rfl
 rw [h1,←ff_any (g:=fun _=>(([],17):List (List Int)×Int))]
 cases hf:ff (fun i=>if (gs[i]?.any fun g=>!flatB g s)=true then some (([],17):List (List Int)×Int)else none) gs.length with
 |none=>rfl
 |some v=>
  obtain⟨j,-,j2,-⟩:=ff_some.1 hf;split at j2
  ·injection j2 with j2;subst j2;rfl
  ·cases j2
theorem coverage_Grid_s {l:GLaw}(h:LawOk l) (sc def_ date:Int):coverage_Grid l sc def_ date=some (gridS l sc def_ date):=by
 unfold coverage_Grid gridS;rw [law_Validate_s h,Option.bind_some];by_cases hv:(validE l).Code=0
 ·have hV:=valid_of hv;have hm:=hV.mem;have hr:=hV.rows;rw [if_neg (show¬¬(validE l).Code=0 from fun h=>h hv),if_neg (show¬¬(validE l).Code=0 from fun h=>h hv),cond2 (n:=0) rfl,Option.bind_some];by_cases hs:sc<0∨(l.Scopes.length:Int)≤sc
  ·rw [if_pos hs,if_pos rfl,if_pos hs]
  rw [if_neg hs,if_neg hs];obtain⟨i,rfl⟩:∃i:Nat,sc=(i:Int):=⟨sc.toNat,by omega⟩;have hi:i<l.Scopes.length:=by omega
  rw [Int.toNat_natCast,List.getElem?_eq_getElem hi,idxN hi];have hS:=law_Signature_s h (fun x hx=>by have:=hm x hx;omega) (fun x hx=>by have:=hr x hx;omega) hi;obtain⟨g1,g2,g3,g4,g5,g6⟩:=h.s _ (List.getElem_mem hi);have hRu:∀r∈l.Scopes[i].Rules,RuleOk r:=fun r hr=>ruleOk h hi hr;dsimp only;generalize l.Scopes[i]=s at hS g1 g2 g3 g4 g5 g6 hRu⊢;by_cases hd:def_<0∨(s.Defs.length:Int)≤def_
  ·rw [if_pos (show decide (def_<0∨(s.Defs.length:Int)≤def_)=true from decide_eq_true hd),if_pos hd]
  rw [if_neg (show¬decide (def_<0∨(s.Defs.length:Int)≤def_)=true by simpa using hd),if_neg hd];have hdt:(if¬date<0 then some (decide (109572<date))else some true)=some (decide (date<0∨109572<date)):=by
   by_cases h1:date<0<;>simp [h1]
  rw [hdt,Option.bind_some];by_cases hdd:date<0∨109572<date
  ·rw [if_pos (by simpa using hdd),if_pos hdd]
  rw [if_neg (by simpa using hdd),if_neg hdd,Option.bind_some,coverage_guardsOn_s g2.rules,Option.bind_some,hS,Option.bind_some];have hgl:=gdOn_len s def_ date;have hgs:=fun g hg=>gdOn_sub (s:=s) (def_:=def_) (date:=date) (g:=g) hg;have gr:=g2.rules;generalize gdOn s def_ date=gs at hgl hgs⊢;have hN:∀g∈gs,∀n∈g,NodeOk n:=fun g hg=>by
   obtain⟨r,hr1,rfl⟩:=hgs g hg;exact(hRu r hr1).g
  rw [any_flat (p:=cells_IsFlat) (fun g hg=>cells_IsFlat_s (hN g hg) _) (by omega) (step:=coverage_Grid_L3 gs (sigS l s)) (fun k hk=>by
   unfold coverage_Grid_L3;rw [if_pos (by omega),idxN hk,Option.bind_some]) (by unfold coverage_Grid_L3;simp),Option.bind_some]
  cases hfl:gs.any fun g=>!flatB g (sigS l s)
  ·simp only [Bool.false_eq_true,if_false];have hw:∀g∈gs,Wst g:=fun g hg=>flat_wst (by have:=List.any_eq_false.1 hfl g hg;simpa using this);have hgl2:∀g∈gs,g.length≤1048576:=fun g hg=>by have:=(hw g hg).le;omega
   have hl:loopO (coverage_Grid_L2 l s gs) (([]:List (List Int)),0)=some (.inl (gridTo l gs s s.Inputs.length)):=by
    refine loopG (fun k=>(gridTo l gs s k,(k:Int))) s.Inputs.length _ (fun k hk=>?_) (by unfold coverage_Grid_L2;simp) rfl;have hlen:=(gridTo_inv hm (by omega) hw s k).1;unfold coverage_Grid_L2;simp only [gridTo,List.getElem?_eq_getElem hk];rw [if_pos (by omega),idxN hk,Option.bind_some,coverage_refersTo_s (by omega) hgl2,Option.bind_some,cells_CutPoints_s (by omega) hw hN,wsucc (by omega)];unfold rowG;cases refersB gs (k:Int)
    ·simp only [Bool.false_eq_true,if_false,Option.bind_some];rw [appS (by simp;omega)];rfl
    ·simp only [if_true,Option.bind_some];rw [cells_Representatives_s (fun x hx=>by have:=hm x hx;omega) (dsort_len_cuts (by omega) hw _),Option.bind_some,Option.bind_some,appS (by simp;omega)];rfl
   obtain⟨q1,q2⟩:=gridTo_inv hm (by omega) hw s s.Inputs.length;rw [hl,Option.bind_some];dsimp only;rw [cells_Count_s (by omega) (fun r hr=>by have:=q2 r hr;omega),Option.bind_some];split<;>rfl
  ·rfl
 ·rw [if_pos hv,if_pos hv]
theorem ref24_Grid_s {l:GLaw}(h:LawOk l) (sc def_ date:Int):ref24_Grid l sc def_ date=some (gridS l sc def_ date):=by
 unfold ref24_Grid gridS;rw [ref17_Validate_s h,Option.bind_some];by_cases hv:(validE l).Code=0
 ·have hV:=valid_of hv;have hm:=hV.mem;have hr:=hV.rows;rw [if_neg (show¬¬(validE l).Code=0 from fun h=>h hv),if_neg (show¬¬(validE l).Code=0 from fun h=>h hv),cond2 (n:=0) rfl,Option.bind_some];by_cases hs:sc<0∨(l.Scopes.length:Int)≤sc
  ·rw [if_pos hs,if_pos rfl,if_pos hs]
  rw [if_neg hs,if_neg hs];obtain⟨i,rfl⟩:∃i:Nat,sc=(i:Int):=⟨sc.toNat,by omega⟩;have hi:i<l.Scopes.length:=by omega
  rw [Int.toNat_natCast,List.getElem?_eq_getElem hi,idxN hi];have hS:=ref17_Signature_s h hi;obtain⟨g1,g2,g3,g4,g5,g6⟩:=h.s _ (List.getElem_mem hi);have hRu:∀r∈l.Scopes[i].Rules,RuleOk r:=fun r hr=>ruleOk h hi hr;dsimp only;generalize l.Scopes[i]=s at hS g1 g2 g3 g4 g5 g6 hRu⊢;by_cases hd:def_<0∨(s.Defs.length:Int)≤def_
  ·rw [if_pos (show decide (def_<0∨(s.Defs.length:Int)≤def_)=true from decide_eq_true hd),if_pos hd]
  rw [if_neg (show¬decide (def_<0∨(s.Defs.length:Int)≤def_)=true by simpa using hd),if_neg hd];have hdt:(if¬date<0 then some (decide (109572<date))else some true)=some (decide (date<0∨109572<date)):=by
   by_cases h1:date<0<;>simp [h1]
  rw [hdt,Option.bind_some];by_cases hdd:date<0∨109572<date
  ·rw [if_pos (by simpa using hdd),if_pos hdd]
  rw [if_neg (by simpa using hdd),if_neg hdd,Option.bind_some,ref24_guards_s g2.rules,Option.bind_some,hS,Option.bind_some];have hgl:=gdOn_len s def_ date;have hgs:=fun g hg=>gdOn_sub (s:=s) (def_:=def_) (date:=date) (g:=g) hg;have gr:=g2.rules;generalize gdOn s def_ date=gs at hgl hgs⊢;have hN:∀g∈gs,∀n∈g,NodeOk n:=fun g hg=>by
   obtain⟨r,hr1,rfl⟩:=hgs g hg;exact(hRu r hr1).g
  rw [any_flat (p:=ref23_IsFlat) (fun g hg=>ref23_IsFlat_s (hN g hg) _) (by omega) (step:=ref24_Grid_L3 gs (sigS l s)) (fun k hk=>by
   unfold ref24_Grid_L3;rw [if_pos (by omega),idxN hk,Option.bind_some]) (by unfold ref24_Grid_L3;simp),Option.bind_some]
  cases hfl:gs.any fun g=>!flatB g (sigS l s)
  ·simp only [Bool.false_eq_true,if_false];have hw:∀g∈gs,Wst g:=fun g hg=>flat_wst (by have:=List.any_eq_false.1 hfl g hg;simpa using this);have hgl2:∀g∈gs,g.length≤1048576:=fun g hg=>by have:=(hw g hg).le;omega
   have hl:loopO (ref24_Grid_L2 l s gs) (([]:List (List Int)),0)=some (.inl (gridTo l gs s s.Inputs.length)):=by
    refine loopG (fun k=>(gridTo l gs s k,(k:Int))) s.Inputs.length _ (fun k hk=>?_) (by unfold ref24_Grid_L2;simp) rfl;have hlen:=(gridTo_inv hm (by omega) hw s k).1;unfold ref24_Grid_L2;simp only [gridTo,List.getElem?_eq_getElem hk];rw [if_pos (by omega),ref24_refers_s (by omega) hgl2,Option.bind_some,idxN hk,Option.bind_some,ref23_CutPoints_s (by omega) hw hN,wsucc (by omega)];unfold rowG;cases refersB gs (k:Int)
    ·simp only [Bool.false_eq_true,if_false,Option.bind_some];rw [appS (by simp;omega)];rfl
    ·simp only [if_true,Option.bind_some];rw [ref23_Representatives_s (fun x hx=>by have:=hm x hx;omega) (dsort_len_cuts (by omega) hw _),Option.bind_some,appS (by simp;omega)];rfl
   obtain⟨q1,q2⟩:=gridTo_inv hm (by omega) hw s s.Inputs.length;rw [hl,Option.bind_some];dsimp only;rw [ref23_Count_s (by omega) (fun r hr=>by have:=q2 r hr;omega),Option.bind_some];split<;>rfl
  ·rfl
 ·rw [if_pos hv,if_pos hv]
theorem gridS_len {l:GLaw}(h:LawOk l) (sc def_ date:Int):(gridS l sc def_ date).1.length≤1099511627776∧∀x∈(gridS l sc def_ date).1,x.length≤1099511627776:=by
 unfold gridS;split
 ·simp
 rename_i hv;have hV:=valid_of (Classical.not_not.1 hv);split
 ·simp
 split
 ·simp
 rename_i s hs;obtain⟨hi,hs2⟩:=List.getElem?_eq_some_iff.1 hs;have hsm:s∈l.Scopes:=hs2▸List.getElem_mem hi;obtain⟨g1,g2,g3,-⟩:=h.s s hsm;have hgl:=gdOn_len s def_ date;have gr:=g2.rules;split
 ·simp
 split
 ·simp
 split
 ·simp
 rename_i hfl;split
 ·simp
 have hfl':∀g∈gdOn s def_ date,flatB g (sigS l s)=true:=by simpa using hfl
 have hw:∀g∈gdOn s def_ date,Wst g:=fun g hg=>flat_wst (hfl' g hg);obtain⟨q1,q2⟩:=gridTo_inv hV.mem (by omega) hw s s.Inputs.length;exact⟨by dsimp only;omega,fun x hx=>by have:=q2 x hx;omega⟩
end Go.Proofs.Dev
namespace Go.Proofs.Dev
open Go Go.Tm
theorem badLoop {n:Nat}(hn:n≤1048576) (bad:Nat→Bool) {step:Int→Option (Ex Int Unit Bool)}(hstep:∀i:Nat,i<n→step (i:Int)=if bad i=true then some (.ret false)else some (.go (wrapF .i64 ((i:Int)+1)))) (hend:step (n:Int)=some (.brk ())) :
 (loopO step 0=some (.inr false))∨(loopO step 0=some (.inl ())∧∀i,i<n→bad i=false):=by
 have h:=loopF (step:=step) (x0:=0) (fun i=>(i:Int)) (fun i=>if bad i=true then some false else none) n () (fun i hi _=>by
  rw [hstep i hi,wsucc (by omega)];cases bad i<;>rfl) (fun _=>hend)
 cases hf:ff (fun i=>if bad i=true then some false else none) n with
 |none=>
  right;rw [hf]at h;refine⟨h,fun i hi=>?_⟩;have:=ff_none.1 hf i hi
  cases hb:bad i with
  |false=>rfl
  |true=>simp [hb]at this
 |some v=>
  left;rw [hf]at h;obtain⟨k,-,k2,-⟩:=ff_some.1 hf;split at k2
  ·injection k2 with k2;subst k2;exact h
  ·cases k2
structure SmallSc (s:GScope):Prop where
 nm:s.Name.size≤80
 ins:s.Inputs.length≤14
 defs:s.Defs.length≤14
 rules:s.Rules.length≤60
 i:∀f∈s.Inputs,f.Name.size≤80
 d:∀f∈s.Defs,f.Name.size≤80
 r:∀r∈s.Rules,r.Name.size≤80∧r.Source.size≤80∧r.Guard.length≤50∧r.Value.length≤50
theorem smallScope_s (s:GScope):∃b,same_smallScope s=some b∧(b=true→SmallSc s):=by
 unfold same_smallScope;by_cases h1:80<(s.Name.size:Int)
 ·exact⟨false,by simp [h1],by simp⟩
 by_cases h2:14<(s.Inputs.length:Int)
 ·exact⟨false,by simp [h1,h2],by simp⟩
 by_cases h3:14<(s.Defs.length:Int)
 ·exact⟨false,by simp [h1,h2,h3],by simp⟩
 by_cases h4:60<(s.Rules.length:Int)
 ·exact⟨false,by simp [h1,h2,h3,h4],by simp⟩
 have hc:(if¬80<(s.Name.size:Int)then if¬14<(s.Inputs.length:Int)then if¬14<(s.Defs.length:Int)then some (decide (60<(s.Rules.length:Int)))else some true else some true else some true)=some false:=by
  rw [if_pos h1,if_pos h2,if_pos h3,decide_eq_false h4]
 rw [hc,Option.bind_some,if_neg (by simp)];rcases badLoop (n:=s.Inputs.length) (by omega) (fun i=>match s.Inputs[i]? with|some f=>decide (80<(f.Name.size:Int))|none=>false) (step:=same_smallScope_L5 s) (fun i hi=>by
  unfold same_smallScope_L5;rw [if_pos (by omega),idxN hi,Option.bind_some,List.getElem?_eq_getElem hi];simp only [decide_eq_true_eq]) (by unfold same_smallScope_L5;simp)with k|⟨k,k1⟩
 ·exact⟨false,by rw [k];rfl,by simp⟩
 rw [k,Option.bind_some];dsimp only;rcases badLoop (n:=s.Defs.length) (by omega) (fun i=>match s.Defs[i]? with|some f=>decide (80<(f.Name.size:Int))|none=>false) (step:=same_smallScope_L4 s) (fun i hi=>by
  unfold same_smallScope_L4;rw [if_pos (by omega),idxN hi,Option.bind_some,List.getElem?_eq_getElem hi];simp only [decide_eq_true_eq]) (by unfold same_smallScope_L4;simp)with k|⟨k,k2⟩
 ·exact⟨false,by rw [k];rfl,by simp⟩
 rw [k,Option.bind_some];dsimp only;rcases badLoop (n:=s.Rules.length) (by omega) (fun i=>match s.Rules[i]? with|some r=>decide (80<(r.Name.size:Int)∨80<(r.Source.size:Int)∨50<(r.Guard.length:Int)∨50<(r.Value.length:Int))|none=>false) (step:=same_smallScope_L3 s) (fun i hi=>by
  unfold same_smallScope_L3;rw [if_pos (by omega),idxN hi,Option.bind_some,List.getElem?_eq_getElem hi];generalize s.Rules[i]=r;by_cases r1:80<(r.Name.size:Int)
  ·simp [r1]
  by_cases r2:80<(r.Source.size:Int)
  ·simp [r1,r2]
  by_cases r3:50<(r.Guard.length:Int)
  ·simp [r1,r2,r3]
  ·simp [r1,r2,r3]) (by unfold same_smallScope_L3;simp)with k|⟨k,k3⟩
 ·exact⟨false,by rw [k];rfl,by simp⟩
 rw [k,Option.bind_some];refine⟨true,rfl,fun _=>⟨by omega,by omega,by omega,by omega,?_,?_,?_⟩⟩
 ·intro f hf;obtain⟨i,hi,rfl⟩:=List.getElem_of_mem hf;have:=k1 i hi;rw [List.getElem?_eq_getElem hi]at this;simp at this;omega
 ·intro f hf;obtain⟨i,hi,rfl⟩:=List.getElem_of_mem hf;have:=k2 i hi;rw [List.getElem?_eq_getElem hi]at this;simp at this;omega
 ·intro r hr;obtain⟨i,hi,rfl⟩:=List.getElem_of_mem hr;have:=k3 i hi;rw [List.getElem?_eq_getElem hi]at this;simp only [decide_eq_false_iff_not]at this;omega
structure SmallL (l:GLaw):Prop where
 ne:l.Enums.length≤9
 nt:l.Tables.length≤9
 ns:l.Scopes.length≤5
 e:∀x∈l.Enums,x.Name.size≤80∧x.Members.length≤20∧∀m∈x.Members,m.size≤80
 t:∀x∈l.Tables,x.Name.size≤80
 s:∀x∈l.Scopes,SmallSc x
def rowsTo (l:GLaw):Nat→Int
 |0=>0
 |k+1=>match l.Tables[k]? with|some t=>wrapF .i64 (rowsTo l k+(t.Rows.length:Int))|none=>rowsTo l k
def rulesTo (l:GLaw):Nat→Int
 |0=>0
 |k+1=>match l.Scopes[k]? with|some t=>wrapF .i64 (rulesTo l k+(t.Rules.length:Int))|none=>rulesTo l k
def enBad (l:GLaw) (i:Nat):Bool:=match l.Enums[i]? with|some x=>decide (80<(x.Name.size:Int)) || decide (20<(x.Members.length:Int)) || (x.Members.any fun m=>decide (80<(m.size:Int)))|none=>false
theorem enBad_eq {l:GLaw}{i:Nat}(hi:i<l.Enums.length):enBad l i=(decide (80<(l.Enums[i].Name.size:Int)) || decide (20<(l.Enums[i].Members.length:Int)) || (l.Enums[i].Members.any fun m=>decide (80<(m.size:Int)))):=by
 unfold enBad;rw [List.getElem?_eq_getElem hi]
theorem same_SmallLaw_s (l:GLaw):∃b,same_SmallLaw l=some b∧(b=true→SmallL l):=by
 unfold same_SmallLaw;by_cases h1:9<(l.Enums.length:Int)
 ·exact⟨false,by simp [h1],by simp⟩
 by_cases h2:9<(l.Tables.length:Int)
 ·exact⟨false,by simp [h1,h2],by simp⟩
 by_cases h3:5<(l.Scopes.length:Int)
 ·exact⟨false,by simp [h1,h2,h3],by simp⟩
 have hc:(if¬9<(l.Enums.length:Int)then if¬9<(l.Tables.length:Int)then some (decide (5<(l.Scopes.length:Int)))else some true else some true)=some false:=by
  rw [if_pos h1,if_pos h2,decide_eq_false h3]
 rw [hc,Option.bind_some,if_neg (by simp)];have hin:∀i (hi:i<l.Enums.length),l.Enums[i].Members.length≤20→loopO (same_SmallLaw_L8 l (i:Int)) 0=some (if (l.Enums[i].Members.any fun m=>decide (80<(m.size:Int)))=true then .inr (.ret false)else .inl ()):=by
  intro i hi hm;have h:=loopF (step:=same_SmallLaw_L8 l (i:Int)) (x0:=0) (fun k=>(k:Int)) (fun k=>if (l.Enums[i].Members[k]?.any fun m=>decide (80<(m.size:Int)))=true then some (Ex.ret false)else none) l.Enums[i].Members.length () (fun k hk _=>by
   unfold same_SmallLaw_L8;rw [idxN hi,Option.bind_some,if_pos (by omega),idxN hk,Option.bind_some,List.getElem?_eq_getElem hk,wsucc (by omega)];simp only [Option.any_some,decide_eq_true_eq];by_cases hb:80<(l.Enums[i].Members[k].size:Int)
   ·rw [if_pos hb,if_pos hb];rfl
   ·rw [if_neg hb,if_neg hb];rfl) (fun _=>by unfold same_SmallLaw_L8;rw [idxN hi,Option.bind_some,if_neg (by omega)])
  rw [h,←ff_any (g:=fun _=>(Ex.ret false:Ex Int Unit Bool))]
  cases hf:ff (fun k=>if (l.Enums[i].Members[k]?.any fun m=>decide (80<(m.size:Int)))=true then some (Ex.ret false:Ex Int Unit Bool)else none) l.Enums[i].Members.length with
  |none=>rfl
  |some v=>
   obtain⟨k,-,k2,-⟩:=ff_some.1 hf;split at k2
   ·injection k2 with k2;subst k2;rfl
   ·cases k2
 rcases badLoop (n:=l.Enums.length) (by omega) (enBad l) (step:=same_SmallLaw_L13 l) (fun i hi=>by
  have hin:=hin i hi;unfold same_SmallLaw_L13;rw [if_pos (by omega),idxN hi,Option.bind_some,enBad_eq hi];generalize l.Enums[i]=x at hin⊢;by_cases r1:80<(x.Name.size:Int)
  ·simp [r1]
  by_cases r2:20<(x.Members.length:Int)
  ·simp [r1,r2]
  ·rw [if_pos r1,Option.bind_some,if_neg (by simpa using r2),hin (by omega),Option.bind_some];generalize (x.Members.any fun m=>decide (80<(m.size:Int)))=c;cases c
   ·rw [if_neg (show¬(decide (80<(x.Name.size:Int)) || decide (20<(x.Members.length:Int)) || false)=true by simp only [Bool.or_false,Bool.or_eq_true,decide_eq_true_eq];omega)];rfl
   ·rw [if_pos (show (decide (80<(x.Name.size:Int)) || decide (20<(x.Members.length:Int)) || true)=true by simp)];rfl) (by unfold same_SmallLaw_L13;simp)with k|⟨k,k1⟩
 ·exact⟨false,by rw [k];rfl,by simp⟩
 rw [k,Option.bind_some];dsimp only;have hT:=loopF (step:=same_SmallLaw_L12 l) (x0:=(0,0)) (fun i=>(rowsTo l i,(i:Int))) (fun i=>match l.Tables[i]? with|some x=>if (decide (80<(x.Name.size:Int)) || decide (150<rowsTo l (i+1)))=true then some false else none|none=>none) l.Tables.length () (fun i hi _=>by
  unfold same_SmallLaw_L12;simp only [rowsTo,List.getElem?_eq_getElem hi];rw [if_pos (by omega),idxN hi,Option.bind_some,wsucc (by omega)];generalize l.Tables[i]=x;generalize wrapF .i64 (rowsTo l i+(x.Rows.length:Int))=w;by_cases r1:80<(x.Name.size:Int)
  ·simp [r1,goR]
  ·by_cases r2:150<w<;>simp [r1,r2,goR]) (fun _=>by unfold same_SmallLaw_L12;simp)
 rw [hT,Option.bind_some]
 cases hf:ff (fun i=>match l.Tables[i]? with|some x=>if (decide (80<(x.Name.size:Int)) || decide (150<rowsTo l (i+1)))=true then some false else none|none=>none) l.Tables.length with
 |some v=>
  refine⟨false,?_,by simp⟩;obtain⟨j,j1,j2,-⟩:=ff_some.1 hf;rw [List.getElem?_eq_getElem j1]at j2;dsimp only at j2;split at j2
  ·injection j2 with j2;subst j2;rfl
  ·cases j2
 |none=>
  have ht2:=ff_none.1 hf;dsimp only [outR];have hS:=loopF (step:=same_SmallLaw_L11 l) (x0:=(0,0)) (fun i=>(rulesTo l i,(i:Int))) (fun i=>match l.Scopes[i]? with|some x=>if (decide (60<rulesTo l (i+1)) || !((same_smallScope x).getD true))=true then some false else none|none=>none) l.Scopes.length () (fun i hi _=>by
   unfold same_SmallLaw_L11;simp only [rulesTo,List.getElem?_eq_getElem hi];rw [if_pos (by omega),idxN hi,Option.bind_some,wsucc (by omega)];obtain⟨b,hb,-⟩:=smallScope_s l.Scopes[i];rw [hb];generalize wrapF .i64 (rulesTo l i+(l.Scopes[i].Rules.length:Int))=w;by_cases r1:60<w
   ·simp [r1,goR]
   ·cases b<;>simp [r1,goR]) (fun _=>by unfold same_SmallLaw_L11;simp)
  rw [hS,Option.bind_some]
  cases hf2:ff (fun i=>match l.Scopes[i]? with|some x=>if (decide (60<rulesTo l (i+1)) || !((same_smallScope x).getD true))=true then some false else none|none=>none) l.Scopes.length with
  |some v=>
   refine⟨false,?_,by simp⟩;obtain⟨j,j1,j2,-⟩:=ff_some.1 hf2;rw [List.getElem?_eq_getElem j1]at j2;dsimp only at j2;split at j2
   ·injection j2 with j2;subst j2;rfl
   ·cases j2
  |none=>
   have hs2:=ff_none.1 hf2;refine⟨true,rfl,fun _=>⟨by omega,by omega,by omega,?_,?_,?_⟩⟩
   ·intro x hx;obtain⟨i,hi,rfl⟩:=List.getElem_of_mem hx;have:=k1 i hi;rw [enBad_eq hi]at this;simp only [Bool.or_eq_false_iff,decide_eq_false_iff_not]at this;refine⟨by omega,by omega,fun m hm=>?_⟩;have h5:=List.any_eq_false.1 this.2 m hm;simp at h5;omega
   ·intro x hx;obtain⟨i,hi,rfl⟩:=List.getElem_of_mem hx;have:=ht2 i hi;rw [List.getElem?_eq_getElem hi]at this;dsimp only at this;split at this
    ·cases this
    ·rename_i hn;simp only [Bool.or_eq_true,decide_eq_true_eq,not_or]at hn;omega
   ·intro x hx;obtain⟨i,hi,rfl⟩:=List.getElem_of_mem hx;have:=hs2 i hi;rw [List.getElem?_eq_getElem hi]at this;dsimp only at this;split at this
    ·cases this
    ·rename_i hn;obtain⟨b,hb,hb2⟩:=smallScope_s l.Scopes[i];rw [hb]at hn;simp at hn;exact hb2 hn.2
def LawTy (l:GLaw):Prop:=∀s∈l.Scopes,∀r∈s.Rules,(∀n∈r.Guard,NodeOk n)∧∀n∈r.Value,NodeOk n
theorem SmallL.ok {l:GLaw}(h:SmallL l) (ht:LawTy l):LawOk l:=by
 have hne:=h.ne;have hnt:=h.nt;have hns:=h.ns;refine⟨by omega,by omega,by omega,fun x hx=>?_,fun x hx=>?_,fun x hx=>?_⟩
 ·obtain⟨a,b,c⟩:=h.e x hx;exact⟨by omega,fun m hm=>by have:=c m hm;omega⟩
 ·have:=h.t x hx;omega
 ·obtain⟨a,b,c,d,e,f,g⟩:=h.s x hx;refine⟨by omega,⟨by omega,by omega,fun r hr=>by have:=g r hr;omega⟩,by omega,fun q hq=>by have:=e q hq;omega,fun q hq=>by have:=f q hq;omega,fun r hr=>?_⟩;have:=g r hr;obtain⟨t1,t2⟩:=ht x hx r hr;exact⟨by omega,by omega,t1,t2⟩
theorem CoverageGrid_plain {l:GLaw}(ht:LawTy l) (haw:law24_awake=some true) (sc def_ date:Int):law24_CoverageGrid l sc def_ date=some true:=by
 unfold law24_CoverageGrid;obtain⟨b,hb,hb2⟩:=same_SmallLaw_s l;rw [hb,Option.bind_some,haw]
 cases b with
 |false=>rfl
 |true=>
  have h:=(hb2 rfl).ok ht;obtain⟨q1,q2⟩:=gridS_len h sc def_ date;rw [if_neg (by simp),coverage_Grid_s h,Option.bind_some,ref24_Grid_s h,Option.bind_some,same_IntLists_refl q1 q2,Option.bind_some,if_pos rfl,if_pos rfl];rfl
end Go.Proofs.Dev
