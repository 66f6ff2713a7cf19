/-
  The functions as plain partial functions, and plain lemmas about them: no condition.
-/
import Derived.Test.YtfanhhhgcabpnaaGreatDoorPC
set_option linter.all false
set_option maxRecDepth 10000
set_option maxHeartbeats 1000000
namespace Go.Proofs.Dev
open Go Go.Tm
structure LawOk (l:GLaw):Prop where
 ne:l.Enums.length≤1048576
 nt:l.Tables.length≤1048576
 ns:l.Scopes.length≤1048576
 e:∀x∈l.Enums,x.Name.size≤1048576∧∀m∈x.Members,m.size≤1048576
 t:∀x∈l.Tables,x.Name.size≤1048576
 s:∀x∈l.Scopes,x.Name.size≤1048576∧ScOk x∧x.Inputs.length≤1048576∧(∀f∈x.Inputs,f.Name.size≤1048576)∧(∀f∈x.Defs,f.Name.size≤1048576)∧
  (∀r∈x.Rules,r.Name.size≤1048576∧r.Source.size≤1048576∧(∀n∈r.Guard,NodeOk n)∧∀n∈r.Value,NodeOk n)
theorem any_take_ff {α ρ:Type}{l:List α}{q:α→Bool}{k:Nat}(hk:k≤l.length) {g:Nat→ρ}:(ff (fun i=>if i<k∧(l[i]?.any q)=true then some (g i)else none) l.length).isSome=(l.take k).any q:=by
 rw [←ff_any (l:=l.take k) (q:=q) (g:=g)];have h:∀m,k≤m→ff (fun i=>if i<k∧(l[i]?.any q)=true then some (g i)else none) m=ff (fun i=>if ((l.take k)[i]?.any q)=true then some (g i)else none) k:=by
  intro m hm
  cases h1:ff (fun i=>if ((l.take k)[i]?.any q)=true then some (g i)else none) k with
  |none=>
   refine ff_none.2 fun i hi=>?_;by_cases hik:i<k
   ·have:=ff_none.1 h1 i hik;rw [List.getElem?_take_of_lt hik]at this;simpa [hik] using this
   ·simp [hik]
  |some v=>
   obtain⟨i,h2,h3,h4⟩:=ff_some.1 h1;refine ff_some.2 ⟨i,by omega,?_,fun j hj=>?_⟩
   ·rw [List.getElem?_take_of_lt h2]at h3;simpa [h2] using h3
   ·have:=h4 j hj;rw [List.getElem?_take_of_lt (by omega)]at this;simpa [show j<k by omega] using this
 rw [h _ hk,List.length_take,Nat.min_eq_left hk]
theorem take_any_loop {α:Type}{l:List α}{q:α→Bool}{k:Nat}(hl:l.length≤1048576) (hk:k≤l.length) {step:Int→Option (Ex Int Unit Bool)}
 (hstep:∀(i:Nat) (hi:i<l.length),step (i:Int)=if i<k∧q l[i]=true then some (.ret true)else some (.go ((i+1:Nat):Int))) (hend:step (l.length:Int)=some (.brk ())) :
 loopO step 0=some (if (l.take k).any q=true then .inr true else .inl ()):=by
 have h1:=loopF (step:=step) (x0:=0) (fun i=>(i:Int)) (fun i=>if i<k∧(l[i]?.any q)=true then some true else none) l.length () (fun i hi _=>by
  rw [hstep i hi,List.getElem?_eq_getElem hi,Option.any_some];by_cases h:i<k∧q l[i]=true
  ·rw [if_pos h,if_pos h];rfl
  ·rw [if_neg h,if_neg h];rfl) (fun _=>hend)
 rw [h1,←any_take_ff (q:=q) (g:=fun _=>true) hk]
 cases hf:ff (fun i=>if i<k∧(l[i]?.any q)=true then some true else none) l.length with
 |none=>rfl
 |some v=>
  obtain⟨i,-,h2,-⟩:=ff_some.1 hf;split at h2
  ·injection h2 with h2;subst h2;rfl
  ·cases h2
theorem never_loop {n:Nat}(hn:n≤1048576) {step:Int→Option (Ex Int Unit Bool)}(hstep:∀i:Nat,i<n→step (i:Int)=some (.go ((i+1:Nat):Int))) (hend:step (n:Int)=some (.brk ())):loopO step 0=some (.inl ()):=
 loopG (fun i=>(i:Int)) n () (fun i hi=>hstep i hi) hend
theorem taken1 {l:GLaw}(h:LawOk l) {i:Nat}(hi:i≤l.Enums.length) (nm:ByteArray):ref17_nameTaken l 1 (i:Int) nm=some ((l.Enums.take i).any fun x=>decide (x.Name=nm)):=by
 have hne:=h.ne;have hnt:=h.nt;have hns:=h.ns;unfold ref17_nameTaken;have h1:loopO (ref17_nameTaken_L5 l 1 (i:Int) nm) 0=some (if (l.Enums.take i).any (fun x=>decide (x.Name=nm))=true then .inr true else .inl ()):=take_any_loop hne hi (fun k hk=>by
  unfold ref17_nameTaken_L5;rw [if_pos (by omega),idxN hk,wsucc (by omega)];by_cases hki:k<i
  ·by_cases hn:l.Enums[k].Name=nm<;>simp [hki,hn]
  ·simp [hki]) (by unfold ref17_nameTaken_L5;simp)
 have h2:loopO (ref17_nameTaken_L4 l 1 (i:Int) nm) 0=some (.inl ()):=never_loop hnt (fun k hk=>by
  unfold ref17_nameTaken_L4;rw [if_pos (by omega),wsucc (by omega)];simp) (by unfold ref17_nameTaken_L4;simp)
 have h3:loopO (ref17_nameTaken_L3 l 1 (i:Int) nm) 0=some (.inl ()):=never_loop hns (fun k hk=>by
  unfold ref17_nameTaken_L3;rw [if_pos (by omega),wsucc (by omega)];simp) (by unfold ref17_nameTaken_L3;simp)
 rw [h1,h2,h3];cases (l.Enums.take i).any fun x=>decide (x.Name=nm)<;>rfl
theorem all_loop {l:GLaw}(h:LawOk l) {t i:Int}(ht:1<t) (nm:ByteArray):loopO (ref17_nameTaken_L5 l t i nm) 0=some (if l.Enums.any (fun x=>decide (x.Name=nm))=true then .inr true else .inl ()):=by
 have hne:=h.ne;have:=take_any_loop (l:=l.Enums) (q:=fun x=>decide (x.Name=nm)) (k:=l.Enums.length) (step:=ref17_nameTaken_L5 l t i nm) hne (Nat.le_refl _) (fun k hk=>by
  unfold ref17_nameTaken_L5;rw [if_pos (by omega),idxN hk,wsucc (by omega),if_neg (by simpa using ht)];by_cases hn:l.Enums[k].Name=nm<;>simp [hk,hn]) (by unfold ref17_nameTaken_L5;simp)
 rwa [List.take_length]at this
theorem taken2 {l:GLaw}(h:LawOk l) {i:Nat}(hi:i≤l.Tables.length) (nm:ByteArray):ref17_nameTaken l 2 (i:Int) nm=some ((l.Enums.any fun x=>decide (x.Name=nm)) || (l.Tables.take i).any fun x=>decide (x.Name=nm)):=by
 have hne:=h.ne;have hnt:=h.nt;have hns:=h.ns;unfold ref17_nameTaken;have h2:loopO (ref17_nameTaken_L4 l 2 (i:Int) nm) 0=some (if (l.Tables.take i).any (fun x=>decide (x.Name=nm))=true then .inr true else .inl ()):=take_any_loop hnt hi (fun k hk=>by
  unfold ref17_nameTaken_L4;rw [if_pos (by omega),idxN hk,wsucc (by omega)];by_cases hki:k<i
  ·by_cases hn:l.Tables[k].Name=nm<;>simp [hki,hn]
  ·simp [hki]) (by unfold ref17_nameTaken_L4;simp)
 have h3:loopO (ref17_nameTaken_L3 l 2 (i:Int) nm) 0=some (.inl ()):=never_loop hns (fun k hk=>by
  unfold ref17_nameTaken_L3;rw [if_pos (by omega),wsucc (by omega)];simp) (by unfold ref17_nameTaken_L3;simp)
 rw [all_loop h (by omega),h2,h3];cases l.Enums.any fun x=>decide (x.Name=nm)
 ·cases (l.Tables.take i).any fun x=>decide (x.Name=nm)<;>rfl
 ·rfl
theorem taken3 {l:GLaw}(h:LawOk l) {i:Nat}(hi:i≤l.Scopes.length) (nm:ByteArray):ref17_nameTaken l 3 (i:Int) nm=some ((l.Enums.any fun x=>decide (x.Name=nm)) || ((l.Tables.any fun x=>decide (x.Name=nm)) || (l.Scopes.take i).any fun x=>decide (x.Name=nm))):=by
 have hne:=h.ne;have hnt:=h.nt;have hns:=h.ns;unfold ref17_nameTaken;have h2:loopO (ref17_nameTaken_L4 l 3 (i:Int) nm) 0=some (if l.Tables.any (fun x=>decide (x.Name=nm))=true then .inr true else .inl ()):=by
  have:=take_any_loop (l:=l.Tables) (q:=fun x=>decide (x.Name=nm)) (k:=l.Tables.length) (step:=ref17_nameTaken_L4 l 3 (i:Int) nm) hnt (Nat.le_refl _) (fun k hk=>by
   unfold ref17_nameTaken_L4;rw [if_pos (by omega),idxN hk,wsucc (by omega)];by_cases hn:l.Tables[k].Name=nm<;>simp [hk,hn]) (by unfold ref17_nameTaken_L4;simp)
  rwa [List.take_length]at this
 have h3:loopO (ref17_nameTaken_L3 l 3 (i:Int) nm) 0=some (if (l.Scopes.take i).any (fun x=>decide (x.Name=nm))=true then .inr true else .inl ()):=take_any_loop hns hi (fun k hk=>by
  unfold ref17_nameTaken_L3;rw [if_pos (by omega),idxN hk,wsucc (by omega)];by_cases hki:k<i
  ·by_cases hn:l.Scopes[k].Name=nm<;>simp [hki,hn]
  ·simp [hki]) (by unfold ref17_nameTaken_L3;simp)
 rw [all_loop h (by omega),h2,h3];cases l.Enums.any fun x=>decide (x.Name=nm)
 ·cases l.Tables.any fun x=>decide (x.Name=nm)
  ·cases (l.Scopes.take i).any fun x=>decide (x.Name=nm)<;>rfl
  ·rfl
 ·rfl
theorem hasEnum_s {l:List GEnum}(hl:l.length≤1048576) (nm:ByteArray):law_hasEnum l nm=some (l.any fun x=>decide (x.Name=nm)):=by
 have h:=containsF (l:=l) (p:=fun x=>law_hasEnum_c1 x nm) (fun x=>decide (x.Name=nm)) (fun x _=>rfl) (by omega) (o:=loopO (slices_IndexFunc_api_Enum_api_Enum_L1 l (fun x=>law_hasEnum_c1 x nm)) 0) rfl;have h':slices_ContainsFunc_api_Enum_api_Enum l (fun x=>law_hasEnum_c1 x nm)=some (l.any fun x=>decide (x.Name=nm)):=h;unfold law_hasEnum;rw [h'];rfl
theorem hasTable_s {l:List GTable}(hl:l.length≤1048576) (nm:ByteArray):law_hasTable l nm=some (l.any fun x=>decide (x.Name=nm)):=by
 have h:=containsF (l:=l) (p:=fun x=>law_hasTable_c1 x nm) (fun x=>decide (x.Name=nm)) (fun x _=>rfl) (by omega) (o:=loopO (slices_IndexFunc_api_Table_api_Table_L1 l (fun x=>law_hasTable_c1 x nm)) 0) rfl;have h':slices_ContainsFunc_api_Table_api_Table l (fun x=>law_hasTable_c1 x nm)=some (l.any fun x=>decide (x.Name=nm)):=h;unfold law_hasTable;rw [h'];rfl
theorem hasScope_s {l:List GScope}(hl:l.length≤1048576) (y:GScope):slices_ContainsFunc_api_Scope_api_Scope l (fun x=>law_checkScope_c1 x y)=some (l.any fun x=>decide (x.Name=y.Name)):=
 containsF (l:=l) (p:=fun x=>law_checkScope_c1 x y) (fun x=>decide (x.Name=y.Name)) (fun x _=>rfl) (by omega) (o:=loopO (slices_IndexFunc_api_Scope_api_Scope_L1 l (fun x=>law_checkScope_c1 x y)) 0) rfl
theorem hasField_s {l:List GField}(hl:l.length≤1048576) (y:GField):slices_ContainsFunc_api_Field_api_Field l (fun x=>law_checkField_c1 x y)=some (l.any fun x=>decide (x.Name=y.Name)):=
 containsF (l:=l) (p:=fun x=>law_checkField_c1 x y) (fun x=>decide (x.Name=y.Name)) (fun x _=>rfl) (by omega) (o:=loopO (slices_IndexFunc_api_Field_api_Field_L1 l (fun x=>law_checkField_c1 x y)) 0) rfl
theorem hasRule_s {l:List GRule}(hl:l.length≤1048576) (y:GRule):slices_ContainsFunc_api_Rule_api_Rule l (fun x=>law_checkRule_c1 x y)=some (l.any fun x=>decide (x.Name=y.Name)):=
 containsF (l:=l) (p:=fun x=>law_checkRule_c1 x y) (fun x=>decide (x.Name=y.Name)) (fun x _=>rfl) (by omega) (o:=loopO (slices_IndexFunc_api_Rule_api_Rule_L1 l (fun x=>law_checkRule_c1 x y)) 0) rfl
theorem hasStr_s {l:List ByteArray}(hl:l.length≤1048576) (y:ByteArray):slices_Contains_string_string l y=some (l.any fun x=>decide (x=y)):=by
 have h:=containsF (l:=l) (p:=fun x=>some (decide (y=x))) (fun x=>decide (x=y)) (fun x _=>by simp [eq_comm]) (by omega) (o:=loopO (slices_Index_string_string_L1 l y) 0) (by
  unfold slices_Index_string_string_L1;simp only [Option.bind_some,decide_eq_true_eq])
 exact h
end Go.Proofs.Dev
namespace Go.Proofs.Dev
open Go Go.Tm
noncomputable def memF (x:GEnum) (k:Nat):Option (Int×Int):=
 match x.Members[k]? with
 |some m=>if identB m=false then some (2,100+(k:Int))else if ((x.Members.take k).any fun y=>decide (y=m))=true then some (7,100+(k:Int))else none
 |none=>none
noncomputable def enumE (l:GLaw) (i:Nat) (x:GEnum):Int×Int:=
 if identB x.Name=false then (2,0)else if ((l.Enums.take i).any fun y=>decide (y.Name=x.Name))=true then (7,0)
 else if x.Members.length=0 then (5,0)else if 16<x.Members.length then (4,116)else (ff (memF x) x.Members.length).getD (0,0)
theorem memF_ne {x:GEnum}{k:Nat}{v:Int×Int}(h:memF x k=some v):v.1≠0:=by
 unfold memF at h;split at h
 ·split at h
  ·injection h with h;subst h;simp
  ·split at h
   ·injection h with h;subst h;simp
   ·cases h
 ·cases h
theorem law_checkEnum_s {l:GLaw}(h:LawOk l) {i:Nat}(hi:i<l.Enums.length):law_checkEnum l (i:Int) l.Enums[i]=some (enumE l i l.Enums[i]):=by
 obtain⟨g1,g2⟩:=h.e _ (List.getElem_mem hi);have hne:=h.ne;generalize l.Enums[i]=x at g1 g2⊢;unfold law_checkEnum enumE;rw [lexer_ident (by omega),Option.bind_some];cases identB x.Name
 ·rfl
 simp only [Bool.false_eq_true,Bool.true_eq_false,if_false];rw [subhN (by omega),Option.bind_some,hasEnum_s (by simp;omega),Option.bind_some];cases (l.Enums.take i).any fun y=>decide (y.Name=x.Name)
 ·simp only [Bool.false_eq_true,Bool.true_eq_false,if_false];by_cases h0:x.Members.length=0
  ·rw [if_pos (by omega),if_pos h0]
  rw [if_neg (by omega),if_neg h0];by_cases h16:16<x.Members.length
  ·rw [if_pos (by omega),if_pos h16]
  rw [if_neg (by omega),if_neg h16];have hl:loopO (law_checkEnum_L1 x) 0=some (outR () (ff (memF x) x.Members.length)):=
   loopF (fun k=>(k:Int)) _ _ _ (fun k hk _=>by
    have hm:=g2 _ (List.getElem_mem hk);unfold law_checkEnum_L1 memF;rw [if_pos (by omega),idxN hk,Option.bind_some,lexer_ident (by omega),Option.bind_some,List.getElem?_eq_getElem hk,wid (n:=100+(k:Int)) (by omega) (by omega),wsucc (by omega),subhN (by omega),Option.bind_some,hasStr_s (by simp;omega),Option.bind_some];simp only;cases identB x.Members[k]
    ·rfl
    ·simp only [Bool.false_eq_true,Bool.true_eq_false,if_false];cases (x.Members.take k).any fun y=>decide (y=x.Members[k])<;>rfl) (fun _=>by unfold law_checkEnum_L1;simp)
  rw [hl];cases ff (memF x) x.Members.length<;>rfl
 ·rfl
theorem ref17_enumError_s {l:GLaw}(h:LawOk l) {i:Nat}(hi:i<l.Enums.length):ref17_enumError l (i:Int)=some (if (enumE l i l.Enums[i]).1=0 then ⟨0,0,0,0⟩else ⟨(enumE l i l.Enums[i]).1,1,i,(enumE l i l.Enums[i]).2⟩):=by
 obtain⟨g1,g2⟩:=h.e _ (List.getElem_mem hi);have hne:=h.ne;unfold ref17_enumError enumE;rw [idxN hi,Option.bind_some];generalize l.Enums[i]=x at g1 g2⊢;rw [ref08_ident (by omega),Option.bind_some,taken1 h (by omega),Option.bind_some];cases identB x.Name
 ·rfl
 simp only [Bool.false_eq_true,Bool.true_eq_false,if_false];cases (l.Enums.take i).any fun y=>decide (y.Name=x.Name)
 ·simp only [Bool.false_eq_true,Bool.true_eq_false,if_false];by_cases h0:x.Members.length=0
  ·rw [if_pos (by omega),if_pos h0];rfl
  rw [if_neg (by omega),if_neg h0];by_cases h16:16<x.Members.length
  ·rw [if_pos (by omega),if_pos h16];rfl
  rw [if_neg (by omega),if_neg h16];have hl:loopO (ref17_enumError_L9 (i:Int) x) (0,0)=some (outR () ((ff (memF x) x.Members.length).map fun v=>(⟨v.1,1,(i:Int),v.2⟩:GLawError))):=by
   have hff:(ff (memF x) x.Members.length).map (fun v=>(⟨v.1,1,(i:Int),v.2⟩:GLawError))=ff (fun k=>(memF x k).map fun v=>(⟨v.1,1,(i:Int),v.2⟩:GLawError)) x.Members.length:=by
    cases h1:ff (memF x) x.Members.length with
    |none=>rw [Option.map_none];exact(ff_none.2 fun k hk=>by rw [ff_none.1 h1 k hk];rfl).symm
    |some v=>obtain⟨k,k1,k2,k3⟩:=ff_some.1 h1;exact(ff_some.2 ⟨k,k1,by rw [k2];rfl,fun j hj=>by rw [k3 j hj];rfl⟩).symm
   rw [hff];refine loopF (fun k=>((if k=0 then 0 else 100+((k-1:Nat):Int)),(k:Int))) _ _ _ (fun k hk _=>?_) (fun _=>by unfold ref17_enumError_L9;simp) (by rfl);have hm:=g2 _ (List.getElem_mem hk);unfold ref17_enumError_L9 memF;simp only;rw [if_pos (by omega),idxN hk,Option.bind_some,ref08_ident (by omega),Option.bind_some,List.getElem?_eq_getElem hk,wid (n:=100+(k:Int)) (by omega) (by omega),wsucc (by omega)];have hl2:loopO (ref17_enumError_L8 (i:Int) x (k:Int) x.Members[k]) 0=some (outR () (ff (fun j=>if ((x.Members.take k)[j]?.any fun y=>decide (y=x.Members[k]))=true then some (Ex.ret (⟨7,1,(i:Int),100+(k:Int)⟩:GLawError))else none) (x.Members.take k).length)):=
    loopF (fun j=>(j:Int)) _ _ _ (fun j hj _=>by
     have hjk:j<k:=by simp at hj;omega
     unfold ref17_enumError_L8;rw [if_pos (by omega),idxN (by omega),Option.bind_some,List.getElem?_eq_getElem hj,wid (n:=100+(k:Int)) (by omega) (by omega),wsucc (by omega)];simp only [Option.any_some,List.getElem_take,decide_eq_true_eq];by_cases he:x.Members[j]=x.Members[k]
     ·rw [if_pos he,if_pos he];rfl
     ·rw [if_neg he,if_neg he];rfl) (fun _=>by
      unfold ref17_enumError_L8;rw [if_neg (by simp;omega)])
   dsimp only;cases identB x.Members[k]
   ·rfl
   simp only [Bool.false_eq_true,Bool.true_eq_false,if_false];rw [hl2,Option.bind_some,←ff_any (l:=x.Members.take k) (q:=fun y=>decide (y=x.Members[k])) (g:=fun _=>(Ex.ret (⟨7,1,(i:Int),100+(k:Int)⟩:GLawError):Ex (Int×Int) Unit GLawError))]
   cases h1:ff (fun j=>if ((x.Members.take k)[j]?.any fun y=>decide (y=x.Members[k]))=true then some (Ex.ret (⟨7,1,(i:Int),100+(k:Int)⟩:GLawError):Ex (Int×Int) Unit GLawError)else none) (x.Members.take k).length with
   |none=>simp [outR,goR]
   |some v=>
    obtain⟨j,j1,j2,-⟩:=ff_some.1 h1;split at j2
    ·injection j2 with j2;subst j2;rfl
    ·cases j2
  rw [hl]
  cases h1:ff (memF x) x.Members.length with
  |none=>rfl
  |some v=>
   obtain⟨k,-,k2,-⟩:=ff_some.1 h1;have:=memF_ne k2;simp [outR,this]
 ·rfl
noncomputable def tabE (l:GLaw) (i:Nat) (x:GTable):Int×Int:=
 if identB x.Name=false then (2,0)
 else if ((l.Enums.any fun y=>decide (y.Name=x.Name)) || (l.Tables.take i).any fun y=>decide (y.Name=x.Name))=true then (7,0)
 else if (tableV x l.Enums).2=0 then (0,0)else ((tableV x l.Enums).2,if (tableV x l.Enums).1 = -1 then 0 else 100+(tableV x l.Enums).1)
theorem tableV_row (t:GTable) (e:List GEnum):-1≤(tableV t e).1∧(tableV t e).1≤64:=by
 unfold tableV;split
 ·simp
 ·split
  ·simp
  ·cases h:ff (rowF t e) t.Rows.length with
   |none=>simp
   |some v=>
    obtain⟨k,h1,h2,-⟩:=ff_some.1 h;unfold rowF at h2;rename_i h64 _;rw [List.getElem?_eq_getElem h1]at h2;simp only at h2;split at h2
    ·injection h2 with h2;subst h2;simp;omega
    ·split at h2
     ·injection h2 with h2;subst h2;simp;omega
     ·cases h2
theorem law_tab_s {l:GLaw}(h:LawOk l):loopO (law_checkTables_L1 l) 0=some (outR () (ff (fun i=>match l.Tables[i]? with|some x=>if (tabE l i x).1=0 then none else some (⟨(tabE l i x).1,2,(i:Int),(tabE l i x).2⟩:GLawError)|none=>none) l.Tables.length)):=by
 have hnt:=h.nt;have hne:=h.ne;refine loopF (fun k=>(k:Int)) _ _ _ (fun i hi _=>?_) (fun _=>by unfold law_checkTables_L1;simp);have hx:=h.t _ (List.getElem_mem hi);unfold law_checkTables_L1 tabE;rw [if_pos (by omega),idxN hi,Option.bind_some,List.getElem?_eq_getElem hi,wsucc (by omega)];simp only;generalize l.Tables[i]=x at hx⊢;have hr:=tableV_row x l.Enums;rw [table_Validate_s,Option.bind_some,lexer_ident (by omega),Option.bind_some,hasEnum_s hne,Option.bind_some,subhN (by omega),Option.bind_some,hasTable_s (by simp;omega),wid (n:=100+(tableV x l.Enums).1) (by omega) (by omega)];generalize tableV x l.Enums=v;cases identB x.Name
 ·rfl
 cases l.Enums.any fun y=>decide (y.Name=x.Name)
 ·cases (l.Tables.take i).any fun y=>decide (y.Name=x.Name)
  ·by_cases h2:v.2=0
   ·simp [h2,goR]
   ·by_cases h1:v.1 = -1<;>simp [h1,h2,goR]
  ·rfl
 ·rfl
theorem ref17_tableError_s {l:GLaw}(h:LawOk l) {i:Nat}(hi:i<l.Tables.length):ref17_tableError l (i:Int)=some (if (tabE l i l.Tables[i]).1=0 then ⟨0,0,0,0⟩else ⟨(tabE l i l.Tables[i]).1,2,i,(tabE l i l.Tables[i]).2⟩):=by
 have hnt:=h.nt;have hne:=h.ne;have hx:=h.t _ (List.getElem_mem hi);unfold ref17_tableError tabE;rw [idxN hi,Option.bind_some];generalize l.Tables[i]=x at hx⊢;have hr:=tableV_row x l.Enums;rw [ref08_ident (by omega),Option.bind_some,taken2 h (by omega),Option.bind_some,ref12_Validate_s,Option.bind_some,wid (n:=100+(tableV x l.Enums).1) (by omega) (by omega)];generalize tableV x l.Enums=v at hr⊢;cases identB x.Name
 ·rfl
 cases (l.Enums.any fun y=>decide (y.Name=x.Name)) || (l.Tables.take i).any fun y=>decide (y.Name=x.Name)
 ·by_cases h2:v.2=0
  ·simp [h2]
  ·by_cases h1:v.1 = -1
   ·simp [h1,h2]
   ·simp [h1,h2,show 0≤v.1 by omega]
 ·rfl
noncomputable def fieldE (l:GLaw) (f:GField) (a b:List GField):Int:=
 if identB f.Name=false then 2 else if ((a.any fun y=>decide (y.Name=f.Name)) || b.any fun y=>decide (y.Name=f.Name))=true then 7 else if validTypeB f.Type_ l.Enums=false then 8 else 0
theorem law_checkField_s {l:GLaw}{f:GField}{a b:List GField}(hf:f.Name.size≤1048576) (ha:a.length≤1048576) (hb:b.length≤1048576):law_checkField l f a b=some (fieldE l f a b):=by
 unfold law_checkField fieldE;rw [lexer_ident (by omega),Option.bind_some,hasField_s ha,Option.bind_some,hasField_s hb,value_ValidType_s,Option.bind_some];cases identB f.Name
 ·rfl
 cases a.any fun y=>decide (y.Name=f.Name)
 ·cases b.any fun y=>decide (y.Name=f.Name)
  ·cases validTypeB f.Type_ l.Enums<;>rfl
  ·rfl
 ·rfl
theorem ref17_hasField_s {l:List GField}{k:Nat}(hl:l.length≤1048576) (hk:k≤l.length) (nm:ByteArray):ref17_hasField l (k:Int) nm=some ((l.take k).any fun y=>decide (y.Name=nm)):=by
 unfold ref17_hasField;have h1:loopO (ref17_hasField_L1 l (k:Int) nm) 0=some (outR () (ff (fun i=>if ((l.take k)[i]?.any fun y=>decide (y.Name=nm))=true then some true else none) (l.take k).length)):=
  loopF (fun i=>(i:Int)) _ _ _ (fun i hi _=>by
   have hik:i<k:=by simp at hi;omega
   unfold ref17_hasField_L1;rw [if_pos (by omega),Option.bind_some,decide_eq_true (by omega),if_pos rfl,idxN (by omega),Option.bind_some,List.getElem?_eq_getElem hi,wsucc (by omega)];simp only [Option.any_some,List.getElem_take,decide_eq_true_eq];by_cases he:l[i].Name=nm
   ·rw [if_pos he,if_pos he];rfl
   ·rw [if_neg he,if_neg he];rfl) (fun _=>by
    unfold ref17_hasField_L1;rw [if_neg (by simp;omega)];rfl)
 rw [h1,←ff_any (q:=fun(y:GField)=>decide (y.Name=nm)) (g:=fun _=>true),Option.bind_some]
 cases h2:ff (fun i=>if ((l.take k)[i]?.any fun y=>decide (y.Name=nm))=true then some true else none) (l.take k).length with
 |none=>rfl
 |some v=>
  obtain⟨j,j1,j2,-⟩:=ff_some.1 h2;split at j2
  ·injection j2 with j2;subst j2;rfl
  ·cases j2
theorem fieldTypes_loop {l:List GField}(hl:l.length≤1048576) {step:List GType×Int→Option (Ex (List GType×Int) (List GType) Unit)}
 (hstep:∀(a:List GType) (i:Nat) (hi:i<l.length),step (a,(i:Int))=((app 16 a [l[i].Type_]).bind fun x=>some (.go (x,wrapF .i64 ((i:Int)+1)))))
 (hend:∀a,step (a,(l.length:Int))=some (.brk a)):loopO step (([]:List GType),0)=some (.inl (l.map (·.Type_))):=by
 refine loopG (fun i=>((l.take i).map (·.Type_),(i:Int))) l.length _ (fun i hi=>?_) (by rw [List.take_length];exact hend _) (by simp);rw [hstep _ i hi,appS (by simp;omega),Option.bind_some,wsucc (by omega),List.take_add_one,List.getElem?_eq_getElem hi,List.map_append];rfl
theorem law_fieldTypes_s {l:List GField}(hl:l.length≤1048576):law_fieldTypes l=some (l.map (·.Type_)):=by
 unfold law_fieldTypes;rw [fieldTypes_loop hl (step:=law_fieldTypes_L1 l) (fun a i hi=>by unfold law_fieldTypes_L1;simp only;rw [if_pos (by omega),idxN hi,Option.bind_some]) (fun a=>by unfold law_fieldTypes_L1;simp)];rfl
def sigS (l:GLaw) (s:GScope):GSignature:=
 if h:0≤s.MemberScope∧s.MemberScope<(l.Scopes.length:Int)then ⟨l.Enums,l.Tables,s.Inputs.map (·.Type_),s.Defs.map (·.Type_),(l.Scopes[s.MemberScope.toNat]'(by omega)).Defs.map (·.Type_),true⟩
 else ⟨l.Enums,l.Tables,s.Inputs.map (·.Type_),s.Defs.map (·.Type_),[],false⟩
theorem law_sharedSignature_s {l:GLaw}(h:LawOk l) {i:Nat}(hi:i<l.Scopes.length):law_sharedSignature l (i:Int)=some (sigS l l.Scopes[i]):=by
 obtain⟨g1,g2,g3,-⟩:=h.s _ (List.getElem_mem hi);have gd:=g2.defs;unfold law_sharedSignature sigS;rw [idxN hi,Option.bind_some];generalize l.Scopes[i]=x at gd g3⊢;rw [law_fieldTypes_s g3,Option.bind_some,law_fieldTypes_s gd,Option.bind_some];by_cases hm:0≤x.MemberScope∧x.MemberScope<(l.Scopes.length:Int)
 ·have hd:=(h.s _ (List.getElem_mem (l:=l.Scopes) (n:=x.MemberScope.toNat) (by omega))).2.1.defs;rw [dif_pos hm,if_pos hm.1,Option.bind_some,if_pos (by simpa using hm.2),idxI hm.1 hm.2,Option.bind_some,law_fieldTypes_s hd];rfl
 ·rw [dif_neg hm];by_cases h0:0≤x.MemberScope
  ·rw [if_pos h0,Option.bind_some,if_neg (by simp;omega)];rfl
  ·rw [if_neg h0];rfl
theorem ref17_Signature_s {l:GLaw}(h:LawOk l) {i:Nat}(hi:i<l.Scopes.length):ref17_Signature l (i:Int)=some (sigS l l.Scopes[i]):=by
 rw [←law_sharedSignature_s h hi];unfold ref17_Signature law_sharedSignature;rw [if_pos (by omega),Option.bind_some,if_neg (by simp;omega)];rfl
def srcAt (s:ByteArray) (i:Nat):Bool:=if h:i<s.size then decide (32≤(s[i].toNat:Int))&&decide ((s[i].toNat:Int)≤126)&&!((s[i].toNat:Int)==34)else true
def srcB (s:ByteArray):Bool:=decide (s.size≤64)&&(ff (fun i=>if srcAt s i=true then none else some false) s.size).isNone
theorem ref17_plainText_s {s:ByteArray}(hs:s.size≤1048576):ref17_plainText s=some (srcB s):=by
 unfold ref17_plainText srcB;have h1:loopO (ref17_plainText_L1 s) 0=some (outR () (ff (fun i=>if srcAt s i=true then none else some false) s.size)):=
  loopF (fun i=>(i:Int)) _ _ _ (fun i hi _=>by
   unfold ref17_plainText_L1 srcAt;rw [if_pos (by omega),sidxN hi,Option.bind_some,wsucc (by omega),dif_pos hi];generalize (s[i].toNat:Int)=c;by_cases c1:c<32
   ·simp [c1,show¬32≤c by omega,goR]
   ·by_cases c2:126<c
    ·simp [c1,c2,show¬c≤126 by omega,show 32≤c by omega,goR]
    ·by_cases c3:c=34<;>simp [c1,c2,c3,show c≤126 by omega,show 32≤c by omega,goR]) (fun _=>by unfold ref17_plainText_L1;simp)
 rw [h1]
 cases h2:ff (fun i=>if srcAt s i=true then none else some false) s.size with
 |none=>
  have:decide ((s.size:Int)≤64)=decide (s.size≤64):=by rw [decide_eq_decide];omega
  simp only [outR,Option.bind_some,Option.isNone_none,Bool.and_true,this]
 |some v=>
  obtain⟨j,j1,j2,-⟩:=ff_some.1 h2;split at j2
  ·cases j2
  ·injection j2 with j2;subst j2;simp [outR]
theorem mem_bytes {s:ByteArray}{c:UInt8}:s.data.toList.contains c=true↔∃i,∃h:i<s.size,s[i]=c:=by
 rw [List.contains_iff_mem];constructor
 ·intro h;obtain⟨i,hi,he⟩:=List.getElem_of_mem h;exact⟨i,by simpa using hi,by rw [←he];rfl⟩
 ·rintro ⟨i,hi,rfl⟩;exact List.getElem_mem (l:=s.data.toList) (n:=i) (by simpa using hi)
theorem law_validSource_s {s:ByteArray}(hs:s.size≤1048576):law_validSource s=some (srcB s):=by
 unfold law_validSource srcB strings_Contains;rw [if_pos (show (ByteArray.mk #[34]).size=1 from rfl)];by_cases h64:64<s.size
 ·rw [if_neg (by simp;omega),decide_eq_false (by omega)];rfl
 rw [if_pos (by simp;omega),decide_eq_true (p:=s.size≤64) (by omega)];have h1:loopO (law_validSource_L1 s) 0=some (outR () (ff (fun i=>if (if h:i<s.size then decide (32≤(s[i].toNat:Int))&&decide ((s[i].toNat:Int)≤126)else true)=true then none else some false) s.size)):=
  loopF (fun i=>(i:Int)) _ _ _ (fun i hi _=>by
   unfold law_validSource_L1;rw [if_pos (by omega),sidxN hi,Option.bind_some,wsucc (by omega),dif_pos hi];generalize (s[i].toNat:Int)=c;by_cases c1:c<32
   ·simp [c1,show¬32≤c by omega,goR]
   ·by_cases c2:126<c
    ·simp [c1,c2,show¬c≤126 by omega,show 32≤c by omega,goR]
    ·simp [c1,c2,show c≤126 by omega,show 32≤c by omega,goR]) (fun _=>by unfold law_validSource_L1;simp)
 rw [h1];simp only [Option.bind_some,Bool.true_and];have hc:=mem_bytes (s:=s) (c:=34);change (s.data.toList.contains ((ByteArray.mk #[34]).data.toList.headD 0))=true↔_ at hc;have h34:∀i (h:i<s.size),s[i]=34↔(s[i].toNat:Int)=34:=fun i h=>by
  constructor
  ·intro he;rw [he];rfl
  ·intro he;apply UInt8.toNat_inj.1;have:s[i].toNat=34:=by omega
   rw [this];rfl
 cases hq:s.data.toList.contains ((ByteArray.mk #[34]).data.toList.headD 0)
 ·rw [hq]at hc;have hno:∀i (h:i<s.size),(s[i].toNat:Int)≠34:=fun i h he=>by
   have:=hc.2 ⟨i,h,(h34 i h).2 he⟩;cases this
  rw [if_neg (by simp)];have hff:ff (fun i=>if (if h:i<s.size then decide (32≤(s[i].toNat:Int))&&decide ((s[i].toNat:Int)≤126)else true)=true then none else some false) s.size=ff (fun i=>if srcAt s i=true then none else some false) s.size:=by
   refine ff_congr fun i hi=>?_;unfold srcAt;have:=hno i hi;rw [dif_pos hi,dif_pos hi];simp [this]
  rw [hff]
  cases h2:ff (fun i=>if srcAt s i=true then none else some false) s.size with
  |none=>rfl
  |some v=>
   obtain⟨j,j1,j2,-⟩:=ff_some.1 h2;split at j2
   ·cases j2
   ·injection j2 with j2;subst j2;rfl
 ·obtain⟨i,hi,he⟩:=hc.1 hq;rw [if_pos rfl]
  cases h2:ff (fun i=>if srcAt s i=true then none else some false) s.size with
  |some v=>rfl
  |none=>
   exfalso;have:=ff_none.1 h2 i hi;unfold srcAt at this;rw [dif_pos hi]at this;simp [(h34 i hi).1 he]at this
end Go.Proofs.Dev
namespace Go.Proofs.Dev
open Go Go.Tm
noncomputable def typeE (e:List GNode) (s:GSignature) (t:GType):Int:=
 if¬(typeS e s).2.2=0 then (typeS e s).2.2 else if¬((typeS e s).1.Kind=t.Kind∧(typeS e s).1.Enum=t.Enum)then 8 else 0
theorem law_checkType_s {e:List GNode}(hN:∀n∈e,NodeOk n) (s:GSignature) (t:GType):law_checkType e s t=some (typeE e s t):=by
 unfold law_checkType typeE;rw [expr_TypeOf_s hN,Option.bind_some];split
 ·rfl
 ·split<;>rfl
theorem ref17_exprError_s {e:List GNode}(hN:∀n∈e,NodeOk n) (s:GSignature) (t:GType):ref17_exprError e s t=some (typeE e s t):=by
 unfold ref17_exprError typeE;rw [ref10_TypeOf_s hN,Option.bind_some];split
 ·rfl
 ·split<;>rfl
def sibs (x:GScope) (k:Nat) (r:GRule):Nat:=((x.Rules.take k).filter fun y=>decide (y.Def=r.Def)).length
theorem sibs_le (x:GScope) (k:Nat) (r:GRule):sibs x k r≤k:=by
 have:=List.length_filter_le (fun(y:GRule)=>decide (y.Def=r.Def)) (x.Rules.take k);unfold sibs;simp at this;omega
theorem sibs_succ {x:GScope}{k:Nat}{r:GRule}(hk:k<x.Rules.length):sibs x (k+1) r=if x.Rules[k].Def=r.Def then sibs x k r+1 else sibs x k r:=by
 unfold sibs;rw [List.take_add_one,List.getElem?_eq_getElem hk,List.filter_append,List.length_append];by_cases h:x.Rules[k].Def=r.Def
 ·rw [if_pos h];simp [h]
 ·rw [if_neg h];simp [h]
def parBad (x:GScope) (k:Nat) (r:GRule):Bool:=
 if r.Parent = -1 then false else if r.Parent<0 then true else if (k:Int)≤r.Parent then true else match x.Rules[r.Parent.toNat]? with|some q=>q.Def !=r.Def|none=>true
noncomputable def ruleE (x:GScope) (s:GSignature) (k:Nat) (r:GRule):Int:=
 if identB r.Name=false then 2
 else if ((x.Rules.take k).any fun y=>decide (y.Name=r.Name))=true then 7
 else if r.Def<0∨(x.Defs.length:Int)≤r.Def then 6
 else if parBad x k r=true then 9
 else if r.Priority<0∨9<r.Priority∨r.Valid.From<0∨r.Valid.To≤r.Valid.From∨109573<r.Valid.To then 3
 else if 8≤sibs x k r then 4
 else if srcB r.Source=false then 2
 else if 0<r.Guard.length∧typeE r.Guard s ⟨1,0⟩≠0 then typeE r.Guard s ⟨1,0⟩
 else typeE r.Value s (match x.Defs[r.Def.toNat]? with|some d=>d.Type_|none=>⟨0,0⟩)
structure RuleOk (r:GRule):Prop where
 nm:r.Name.size≤1048576
 src:r.Source.size≤1048576
 g:∀n∈r.Guard,NodeOk n
 v:∀n∈r.Value,NodeOk n
theorem par_s {x:GScope}{k:Nat}{r:GRule}(hk:k<x.Rules.length) {o:Option Bool}(ho:o=(if¬r.Parent = -1 then if¬r.Parent<0 then if¬(k:Int)≤r.Parent then (idx x.Rules r.Parent).bind fun y=>some (y.Def !=r.Def)else some true else some true else some false)):o=some (parBad x k r):=by
 rw [ho];unfold parBad;by_cases h1:r.Parent = -1
 ·simp [h1]
 by_cases h2:r.Parent<0
 ·simp [h1,h2]
 by_cases h3:(k:Int)≤r.Parent
 ·simp [h1,h2,h3]
 ·rw [if_pos h1,if_pos h2,if_pos h3,if_neg h1,if_neg h2,if_neg h3,idxI (by omega) (by omega),Option.bind_some,List.getElem?_eq_getElem]
theorem law_checkRule_s {x:GScope}(hx:ScOk x) {k:Nat}(hk:k<x.Rules.length) (hr:RuleOk x.Rules[k]) (s:GSignature):law_checkRule x (k:Int) s=some (ruleE x s k x.Rules[k]):=by
 have hrl:=hx.rules;have hdl:=hx.defs;unfold law_checkRule ruleE;rw [idxN hk,Option.bind_some,subhN (by omega),Option.bind_some];generalize hrr:x.Rules[k]=r at hr⊢;have hl:loopO (law_checkRule_L1 r (x.Rules.take k)) (0,0)=some (.inl ((sibs x k r:Nat):Int)):=by
  refine loopG (fun i=>(((sibs x i r:Nat):Int),(i:Int))) k _ (fun i hi=>?_) ?_ rfl
  ·have:=sibs_le x i r;unfold law_checkRule_L1;simp only;rw [if_pos (by simp;omega),idxN (by simp;omega),Option.bind_some,wsucc (by omega),wsucc (by omega),List.getElem_take,sibs_succ (by omega)];by_cases h:x.Rules[i].Def=r.Def
   ·rw [if_pos h,if_pos h];rfl
   ·rw [if_neg h,if_neg h];rfl
  ·unfold law_checkRule_L1;simp only;rw [if_neg (by simp;omega)]
 rw [hl,Option.bind_some];simp only;rw [lexer_ident (by have:=hr.nm;omega),Option.bind_some,Option.bind_some,hasRule_s (by simp;omega),Option.bind_some];cases identB r.Name
 ·rfl
 simp only [Bool.true_eq_false,if_false];cases (x.Rules.take k).any fun y=>decide (y.Name=r.Name)
 ·simp only [Bool.false_eq_true,if_false];by_cases hd:r.Def<0∨(x.Defs.length:Int)≤r.Def
  ·rw [if_pos hd];by_cases h1:r.Def<0
   ·simp [h1]
   ·simp [h1,show (x.Defs.length:Int)≤r.Def by omega]
  ·rw [if_neg hd,if_pos (by omega),Option.bind_some,if_neg (by simp;omega)];rw [par_s hk rfl,Option.bind_some];cases parBad x k r
   ·simp only [Bool.false_eq_true,if_false];by_cases hp:r.Priority<0∨9<r.Priority
    ·rw [if_pos (show r.Priority<0∨9<r.Priority∨r.Valid.From<0∨r.Valid.To≤r.Valid.From∨109573<r.Valid.To by omega)];by_cases h1:r.Priority<0
     ·simp [h1]
     ·simp [h1,show 9<r.Priority by omega]
    ·rw [if_pos (show¬r.Priority<0 by omega),Option.bind_some,if_neg (by simp;omega)];by_cases hv:r.Valid.From<0∨r.Valid.To≤r.Valid.From∨109573<r.Valid.To
     ·rw [if_pos (show r.Priority<0∨9<r.Priority∨r.Valid.From<0∨r.Valid.To≤r.Valid.From∨109573<r.Valid.To by omega)];by_cases h1:r.Valid.From<0
      ·simp [h1]
      ·by_cases h2:r.Valid.To≤r.Valid.From
       ·simp [h1,h2]
       ·simp [h1,h2,show 109573<r.Valid.To by omega]
     ·rw [if_pos (show¬r.Valid.From<0 by omega),if_pos (show¬r.Valid.To≤r.Valid.From by omega),Option.bind_some,if_neg (by simp;omega),if_neg (show¬(r.Priority<0∨9<r.Priority∨r.Valid.From<0∨r.Valid.To≤r.Valid.From∨109573<r.Valid.To) by omega)];by_cases h8:8≤sibs x k r
      ·rw [if_pos (by omega),if_pos h8]
      rw [if_neg (by omega),if_neg h8,law_validSource_s hr.src,Option.bind_some];cases srcB r.Source
      ·rfl
      simp only [Bool.true_eq_false,if_false];have hi:idx x.Defs r.Def=some (x.Defs[r.Def.toNat]'(by omega)):=idxI (by omega) (by omega);have hg2:x.Defs[r.Def.toNat]?=some (x.Defs[r.Def.toNat]'(by omega)):=List.getElem?_eq_getElem _;simp only [hi,hg2,law_checkType_s hr.g,law_checkType_s hr.v,Option.bind_some];generalize typeE r.Value s (x.Defs[r.Def.toNat]'(by omega)).Type_=v;by_cases hg:0<r.Guard.length
      ·rw [if_pos (show (0:Int)<(r.Guard.length:Int) by omega)];by_cases ht:typeE r.Guard s ⟨1,0⟩=0
       ·rw [if_neg (by simpa using ht),if_neg (by simp [ht])];rfl
       ·rw [if_pos ht,if_pos ⟨hg,ht⟩];rfl
      ·rw [if_neg (show¬(0:Int)<(r.Guard.length:Int) by omega),if_neg (by simp [hg])];rfl
   ·rfl
 ·rfl
end Go.Proofs.Dev
namespace Go.Proofs.Dev
open Go Go.Tm
theorem ref05_bad {v:GDateRange}:vrB v=false∨v.From=v.To↔v.From<0∨v.To≤v.From∨109573<v.To:=by
 unfold vrB;by_cases h1:0≤v.From<;>by_cases h2:v.From≤v.To<;>by_cases h3:v.To≤109573<;>simp [h1,h2,h3]<;>omega
theorem ruleOk {l:GLaw}(h:LawOk l) {i:Nat}(hi:i<l.Scopes.length) {r:GRule}(hr:r∈l.Scopes[i].Rules):RuleOk r:=by
 obtain⟨-,-,-,-,-,g⟩:=h.s _ (List.getElem_mem hi);obtain⟨a,b,c,d⟩:=g r hr;exact⟨a,b,c,d⟩
theorem ref17_ruleError_s {l:GLaw}(h:LawOk l) {i:Nat}(hi:i<l.Scopes.length) {k:Nat}(hk:k<l.Scopes[i].Rules.length):ref17_ruleError l (i:Int) (k:Int)=some (ruleE l.Scopes[i] (sigS l l.Scopes[i]) k l.Scopes[i].Rules[k]):=by
 have hr:=ruleOk h hi (List.getElem_mem hk);have hx:=(h.s _ (List.getElem_mem hi)).2.1;have hS:=ref17_Signature_s h hi;unfold ref17_ruleError;rw [idxN hi,Option.bind_some];generalize l.Scopes[i]=x at hk hr hx hS⊢;have hrl:=hx.rules;have hdl:=hx.defs;rw [idxN hk,Option.bind_some];unfold ruleE;generalize hrr:x.Rules[k]=r at hr⊢;rw [ref08_ident (by have:=hr.nm;omega),Option.bind_some];cases identB r.Name
 ·rfl
 simp only [Bool.true_eq_false,if_false];have hl:loopO (ref17_ruleError_L1 (k:Int) x r) (0,0)=some (outR ((sibs x k r:Nat):Int) (ff (fun i=>if ((x.Rules.take k)[i]?.any fun y=>decide (y.Name=r.Name))=true then some 7 else none) (x.Rules.take k).length)):=by
  refine loopF (fun i=>(((sibs x i r:Nat):Int),(i:Int))) _ _ _ (fun j hj _=>?_) (fun _=>?_) rfl
  ·have hjk:j<k:=by simp at hj;omega
   have:=sibs_le x j r;unfold ref17_ruleError_L1;simp only;rw [if_pos (by omega),idxN (by omega),Option.bind_some,wsucc (by omega),wsucc (by omega),List.getElem?_eq_getElem hj,sibs_succ (by omega)];simp only [Option.any_some,List.getElem_take,decide_eq_true_eq];by_cases hn:x.Rules[j].Name=r.Name
   ·rw [if_pos hn,if_pos hn];rfl
   ·rw [if_neg hn,if_neg hn];by_cases hd:x.Rules[j].Def=r.Def
    ·rw [if_pos hd,if_pos hd];rfl
    ·rw [if_neg hd,if_neg hd];rfl
  ·unfold ref17_ruleError_L1;have:(x.Rules.take k).length=k:=by simp;omega
   simp only [this];rw [if_neg (by omega)]
 rw [hl,Option.bind_some,←ff_any (q:=fun(y:GRule)=>decide (y.Name=r.Name)) (g:=fun _=>(7:Int))]
 cases h2:ff (fun i=>if ((x.Rules.take k)[i]?.any fun y=>decide (y.Name=r.Name))=true then some (7:Int)else none) (x.Rules.take k).length with
 |some v=>
  obtain⟨j,j1,j2,-⟩:=ff_some.1 h2;split at j2
  ·injection j2 with j2;subst j2;rfl
  ·cases j2
 |none=>
  simp only [outR,Option.isSome_none,Bool.false_eq_true,if_false];by_cases hd:r.Def<0∨(x.Defs.length:Int)≤r.Def
  ·rw [if_pos hd];by_cases h1:r.Def<0
   ·simp [h1]
   ·simp [h1,show (x.Defs.length:Int)≤r.Def by omega]
  ·rw [if_neg hd,if_pos (by omega),Option.bind_some,if_neg (by simp;omega)];rw [par_s hk rfl,Option.bind_some];cases parBad x k r
   ·simp only [Bool.false_eq_true,if_false,ref05_Valid_s,Option.bind_some];have hb:=ref05_bad (v:=r.Valid);by_cases hp:r.Priority<0∨9<r.Priority
    ·rw [if_pos (show r.Priority<0∨9<r.Priority∨r.Valid.From<0∨r.Valid.To≤r.Valid.From∨109573<r.Valid.To by omega)];by_cases h1:r.Priority<0
     ·simp [h1]
     ·simp [h1,show 9<r.Priority by omega]
    ·rw [if_pos (show¬r.Priority<0 by omega),if_pos (show¬9<r.Priority by omega)];by_cases hv:r.Valid.From<0∨r.Valid.To≤r.Valid.From∨109573<r.Valid.To
     ·rw [if_pos (show r.Priority<0∨9<r.Priority∨r.Valid.From<0∨r.Valid.To≤r.Valid.From∨109573<r.Valid.To by omega)];rcases hb.2 hv with h1|h1
      ·simp [h1]
      ·cases vrB r.Valid<;>simp [h1]
     ·have h1:vrB r.Valid=true:=by
       cases hq:vrB r.Valid with
       |true=>rfl
       |false=>exact(hv (hb.1 (.inl hq))).elim
      have h2:¬r.Valid.From=r.Valid.To:=fun hq=>hv (hb.1 (.inr hq));rw [if_pos h1,Option.bind_some,if_neg (by simpa using h2),if_neg (show¬(r.Priority<0∨9<r.Priority∨r.Valid.From<0∨r.Valid.To≤r.Valid.From∨109573<r.Valid.To) by omega)];by_cases h8:8≤sibs x k r
      ·rw [if_pos (by omega),if_pos h8]
      rw [if_neg (by omega),if_neg h8,ref17_plainText_s hr.src,Option.bind_some];cases srcB r.Source
      ·rfl
      simp only [Bool.true_eq_false,if_false];have hi':idx x.Defs r.Def=some (x.Defs[r.Def.toNat]'(by omega)):=idxI (by omega) (by omega);have hg2:x.Defs[r.Def.toNat]?=some (x.Defs[r.Def.toNat]'(by omega)):=List.getElem?_eq_getElem _;simp only [hS,hi',hg2,ref17_exprError_s hr.g,ref17_exprError_s hr.v,Option.bind_some];generalize typeE r.Value _ (x.Defs[r.Def.toNat]'(by omega)).Type_=v;by_cases hg:0<r.Guard.length
      ·rw [if_pos (show (0:Int)<(r.Guard.length:Int) by omega)];by_cases ht:typeE r.Guard (sigS l x) ⟨1,0⟩=0
       ·rw [if_neg (by simpa using ht),if_neg (by simp [ht])];rfl
       ·rw [if_pos ht,if_pos ⟨hg,ht⟩];rfl
      ·rw [if_neg (show¬(0:Int)<(r.Guard.length:Int) by omega),if_neg (by simp [hg])];rfl
   ·rfl
noncomputable def inF (l:GLaw) (x:GScope) (k:Nat):Option (Int×Int):=
 match x.Inputs[k]? with
 |some f=>if fieldE l f (x.Inputs.take k) []=0 then none else some (fieldE l f (x.Inputs.take k) [],100+(k:Int))
 |none=>none
noncomputable def defF (l:GLaw) (x:GScope) (k:Nat):Option (Int×Int):=
 match x.Defs[k]? with
 |some f=>if fieldE l f x.Inputs (x.Defs.take k)=0 then none else some (fieldE l f x.Inputs (x.Defs.take k),200+(k:Int))
 |none=>none
noncomputable def rulF (l:GLaw) (x:GScope) (k:Nat):Option (Int×Int):=
 match x.Rules[k]? with
 |some r=>if ruleE x (sigS l x) k r=0 then none else some (ruleE x (sigS l x) k r,300+(k:Int))
 |none=>none
open Classical in
noncomputable def cycF (x:GScope) (k:Nat):Option (Int×Int):=if Way x (k:Int) (k:Int)then some (9,200+(k:Int))else none
def memBad (l:GLaw) (i:Nat) (x:GScope):Bool:=
 if x.MemberScope = -1 then false else if x.MemberScope<0 then true else if (i:Int)≤x.MemberScope then true else match l.Scopes[x.MemberScope.toNat]? with|some q=>q.MemberScope !=-1|none=>true
noncomputable def scopeE (l:GLaw) (i:Nat) (x:GScope):Int×Int:=
 if identB x.Name=false then (2,0)
 else if ((l.Enums.any fun y=>decide (y.Name=x.Name)) || ((l.Tables.any fun y=>decide (y.Name=x.Name)) || (l.Scopes.take i).any fun y=>decide (y.Name=x.Name)))=true then (7,0)
 else if memBad l i x=true then (6,0)
 else if 12<x.Inputs.length then (4,112)
 else if 12<x.Defs.length then (4,212)
 else match ff (inF l x) x.Inputs.length with
  |some v=>v
  |none=>match ff (defF l x) x.Defs.length with
   |some v=>v
   |none=>match ff (rulF l x) x.Rules.length with
    |some v=>v
    |none=>(ff (cycF x) x.Defs.length).getD (0,0)
theorem memBad_s {l:GLaw}{i:Nat}{x:GScope}(hi:i<l.Scopes.length) {o:Option Bool}(ho:o=(if¬x.MemberScope = -1 then if¬x.MemberScope<0 then if¬(i:Int)≤x.MemberScope then (idx l.Scopes x.MemberScope).bind fun y=>some (y.MemberScope !=-1)else some true else some true else some false)):o=some (memBad l i x):=by
 rw [ho];unfold memBad;by_cases h1:x.MemberScope = -1
 ·simp [h1]
 by_cases h2:x.MemberScope<0
 ·simp [h1,h2]
 by_cases h3:(i:Int)≤x.MemberScope
 ·simp [h1,h2,h3]
 ·rw [if_pos h1,if_pos h2,if_pos h3,if_neg h1,if_neg h2,if_neg h3,idxI (by omega) (by omega),Option.bind_some,List.getElem?_eq_getElem]
theorem memBad_s2 {l:GLaw}{i:Nat}{x:GScope}(hi:i<l.Scopes.length) {o:Option Bool}(ho:o=(if¬x.MemberScope = -1 then if¬x.MemberScope<0 then if¬(i:Int)≤x.MemberScope then (idx (l.Scopes.take i) x.MemberScope).bind fun y=>some (y.MemberScope !=-1)else some true else some true else some false)):o=some (memBad l i x):=by
 rw [ho];unfold memBad;by_cases h1:x.MemberScope = -1
 ·simp [h1]
 by_cases h2:x.MemberScope<0
 ·simp [h1,h2]
 by_cases h3:(i:Int)≤x.MemberScope
 ·simp [h1,h2,h3]
 ·rw [if_pos h1,if_pos h2,if_pos h3,if_neg h1,if_neg h2,if_neg h3,idxI (by omega) (by simp;omega),Option.bind_some,List.getElem?_eq_getElem (by omega),List.getElem_take]
theorem law_checkScope_s {l:GLaw}(h:LawOk l) {i:Nat}(hi:i<l.Scopes.length):law_checkScope l (i:Int)=some (scopeE l i l.Scopes[i]):=by
 obtain⟨g1,g2,g3,g4,g5,g6⟩:=h.s _ (List.getElem_mem hi);have hne:=h.ne;have hnt:=h.nt;have hns:=h.ns;have hS:=law_sharedSignature_s h hi;have hRu:∀r∈l.Scopes[i].Rules,RuleOk r:=fun r hr=>ruleOk h hi hr;unfold law_checkScope scopeE;rw [idxN hi,Option.bind_some,subhN (by omega),Option.bind_some];generalize l.Scopes[i]=x at g1 g2 g3 g4 g5 g6 hS hRu⊢;have gd:=g2.defs;have gr:=g2.rules;rw [hasEnum_s hne,Option.bind_some,hasTable_s hnt,hasScope_s (by simp;omega),lexer_ident (by omega)];have htk:(if (l.Enums.any fun y=>decide (y.Name=x.Name))=false then (some (l.Tables.any fun y=>decide (y.Name=x.Name))).bind fun x5=>if x5=false then (some ((l.Scopes.take i).any fun y=>decide (y.Name=x.Name))).bind fun x7=>some x7 else some true else some true) =
  some ((l.Enums.any fun y=>decide (y.Name=x.Name)) || ((l.Tables.any fun y=>decide (y.Name=x.Name)) || (l.Scopes.take i).any fun y=>decide (y.Name=x.Name))):=by
  cases l.Enums.any fun y=>decide (y.Name=x.Name)<;>cases l.Tables.any fun y=>decide (y.Name=x.Name)<;>rfl
 rw [htk,Option.bind_some,Option.bind_some];cases identB x.Name
 ·rfl
 simp only [Bool.true_eq_false,if_false];cases (l.Enums.any fun y=>decide (y.Name=x.Name)) || ((l.Tables.any fun y=>decide (y.Name=x.Name)) || (l.Scopes.take i).any fun y=>decide (y.Name=x.Name))
 ·simp only [Bool.false_eq_true,if_false];rw [memBad_s2 (l:=l) (x:=x) hi rfl,Option.bind_some];cases memBad l i x
  ·simp only [Bool.false_eq_true,if_false];by_cases hI:12<x.Inputs.length
   ·rw [if_pos (by omega),if_pos hI]
   rw [if_neg (by omega),if_neg hI];by_cases hD:12<x.Defs.length
   ·rw [if_pos (by omega),if_pos hD]
   rw [if_neg (by omega),if_neg hD];have l1:loopO (law_checkScope_L7 l x) 0=some (outR () (ff (inF l x) x.Inputs.length)):=
    loopF (fun k=>(k:Int)) _ _ _ (fun k hk _=>by
     unfold law_checkScope_L7 inF;rw [if_pos (by omega),idxN hk,Option.bind_some,subhN (by omega),Option.bind_some,law_checkField_s (g4 _ (List.getElem_mem hk)) (by simp;omega) (by simp),Option.bind_some,List.getElem?_eq_getElem hk,wid (n:=100+(k:Int)) (by omega) (by omega),wsucc (by omega)];dsimp only;by_cases hz:fieldE l x.Inputs[k] (x.Inputs.take k) []=0
     ·rw [if_neg (by simpa using hz),if_pos hz];rfl
     ·rw [if_pos hz,if_neg hz];rfl) (fun _=>by unfold law_checkScope_L7;simp)
   have l2:loopO (law_checkScope_L6 l x) 0=some (outR () (ff (defF l x) x.Defs.length)):=
    loopF (fun k=>(k:Int)) _ _ _ (fun k hk _=>by
     unfold law_checkScope_L6 defF;rw [if_pos (by omega),idxN hk,Option.bind_some,subhN (by omega),Option.bind_some,law_checkField_s (g5 _ (List.getElem_mem hk)) g3 (by simp;omega),Option.bind_some,List.getElem?_eq_getElem hk,wid (n:=200+(k:Int)) (by omega) (by omega),wsucc (by omega)];dsimp only;by_cases hz:fieldE l x.Defs[k] x.Inputs (x.Defs.take k)=0
     ·rw [if_neg (by simpa using hz),if_pos hz];rfl
     ·rw [if_pos hz,if_neg hz];rfl) (fun _=>by unfold law_checkScope_L6;simp)
   have l3:loopO (law_checkScope_L5 x (sigS l x)) 0=some (outR () (ff (rulF l x) x.Rules.length)):=
    loopF (fun k=>(k:Int)) _ _ _ (fun k hk _=>by
     unfold law_checkScope_L5 rulF;rw [if_pos (by omega),law_checkRule_s g2 hk (hRu _ (List.getElem_mem hk)),Option.bind_some,List.getElem?_eq_getElem hk,wid (n:=300+(k:Int)) (by omega) (by omega),wsucc (by omega)];dsimp only;by_cases hz:ruleE x (sigS l x) k x.Rules[k]=0
     ·rw [if_neg (by simpa using hz),if_pos hz];rfl
     ·rw [if_pos hz,if_neg hz];rfl) (fun _=>by unfold law_checkScope_L5;simp)
   have l4:loopO (law_checkScope_L4 x) 0=some (outR () (ff (cycF x) x.Defs.length)):=
    loopF (fun k=>(k:Int)) _ _ _ (fun k hk _=>by
     obtain⟨q,q1,q2,q3⟩:=deps_Transitive_s g2 (k:Int);unfold law_checkScope_L4 cycF;rw [if_pos (by omega),q1,Option.bind_some,contains_int (by omega),Option.bind_some,wid (n:=200+(k:Int)) (by omega) (by omega),wsucc (by omega)];by_cases hz:Way x (k:Int) (k:Int)
     ·rw [if_pos (by simpa using (q3 _).2 hz),if_pos hz];rfl
     ·rw [if_neg (by simpa using fun hq=>hz ((q3 _).1 hq)),if_neg hz];rfl) (fun _=>by unfold law_checkScope_L4;simp)
   rw [l1,Option.bind_some]
   cases ff (inF l x) x.Inputs.length with
   |some v=>rfl
   |none=>
    simp only [outR];rw [l2,Option.bind_some]
    cases ff (defF l x) x.Defs.length with
    |some v=>rfl
    |none=>
     simp only [outR];rw [hS,Option.bind_some,l3,Option.bind_some]
     cases ff (rulF l x) x.Rules.length with
     |some v=>rfl
     |none=>
      simp only [outR];rw [l4,Option.bind_some];cases ff (cycF x) x.Defs.length<;>rfl
  ·rfl
 ·rfl
end Go.Proofs.Dev
namespace Go.Proofs.Dev
open Go Go.Tm
theorem ff_map {α β:Type}{f:Nat→Option α}(g:α→β) {n:Nat}:ff (fun k=>(f k).map g) n=(ff f n).map g:=by
 cases h1:ff f n with
 |none=>rw [Option.map_none];exact ff_none.2 fun k hk=>by rw [ff_none.1 h1 k hk];rfl
 |some v=>obtain⟨k,k1,k2,k3⟩:=ff_some.1 h1;exact ff_some.2 ⟨k,k1,by rw [k2];rfl,fun j hj=>by rw [k3 j hj];rfl⟩
def le3 (i:Nat) (v:Int×Int):GLawError:=⟨v.1,3,(i:Int),v.2⟩
theorem inF_ne {l:GLaw}{x:GScope}{k:Nat}{v:Int×Int}(h:inF l x k=some v):v.1≠0:=by
 unfold inF at h;split at h
 ·split at h
  ·cases h
  ·injection h with h;subst h;assumption
 ·cases h
theorem defF_ne {l:GLaw}{x:GScope}{k:Nat}{v:Int×Int}(h:defF l x k=some v):v.1≠0:=by
 unfold defF at h;split at h
 ·split at h
  ·cases h
  ·injection h with h;subst h;assumption
 ·cases h
theorem rulF_ne {l:GLaw}{x:GScope}{k:Nat}{v:Int×Int}(h:rulF l x k=some v):v.1≠0:=by
 unfold rulF at h;split at h
 ·split at h
  ·cases h
  ·injection h with h;subst h;assumption
 ·cases h
theorem cycF_ne {x:GScope}{k:Nat}{v:Int×Int}(h:cycF x k=some v):v.1≠0:=by
 unfold cycF at h;split at h
 ·injection h with h;subst h;simp
 ·cases h
theorem ff_ne {f:Nat→Option (Int×Int)}(hf:∀{k v},f k=some v→v.1≠0) {n:Nat}{v:Int×Int}(h:ff f n=some v):v.1≠0:=by
 obtain⟨k,-,h2,-⟩:=ff_some.1 h;exact hf h2
theorem ref17_fieldError_s {l:GLaw}(h:LawOk l) {i:Nat}(hi:i<l.Scopes.length):ref17_fieldError l (i:Int)=some (match ff (inF l l.Scopes[i]) l.Scopes[i].Inputs.length with
 |some v=>le3 i v
 |none=>match ff (defF l l.Scopes[i]) l.Scopes[i].Defs.length with
  |some v=>le3 i v
  |none=>⟨0,0,0,0⟩):=by
 obtain⟨g1,g2,g3,g4,g5,g6⟩:=h.s _ (List.getElem_mem hi);unfold ref17_fieldError;rw [idxN hi,Option.bind_some];generalize l.Scopes[i]=x at g1 g2 g3 g4 g5 g6⊢;have gd:=g2.defs;have l1:loopO (ref17_fieldError_L3 l (i:Int) x) 0=some (outR () ((ff (inF l x) x.Inputs.length).map (le3 i))):=by
  rw [←ff_map];exact loopF (fun k=>(k:Int)) _ _ _ (fun k hk _=>by
   have hf:=g4 _ (List.getElem_mem hk);unfold ref17_fieldError_L3 inF fieldE;rw [if_pos (by omega),idxN hk,Option.bind_some,ref08_ident (by omega),Option.bind_some,ref17_hasField_s g3 (by omega),Option.bind_some,ref09_ValidType_s,Option.bind_some,List.getElem?_eq_getElem hk,wid (n:=100+(k:Int)) (by omega) (by omega),wsucc (by omega)];dsimp only;generalize x.Inputs[k]=f;cases identB f.Name
   ·rfl
   cases (x.Inputs.take k).any fun y=>decide (y.Name=f.Name)
   ·cases validTypeB f.Type_ l.Enums<;>rfl
   ·rfl) (fun _=>by unfold ref17_fieldError_L3;simp)
 have l2:loopO (ref17_fieldError_L2 l (i:Int) x) 0=some (outR () ((ff (defF l x) x.Defs.length).map (le3 i))):=by
  rw [←ff_map];exact loopF (fun k=>(k:Int)) _ _ _ (fun k hk _=>by
   have hf:=g5 _ (List.getElem_mem hk);unfold ref17_fieldError_L2 defF fieldE;rw [if_pos (by omega),idxN hk,Option.bind_some,ref08_ident (by omega),Option.bind_some,ref17_hasField_s g3 (Nat.le_refl _),Option.bind_some,ref17_hasField_s gd (by omega),ref09_ValidType_s,Option.bind_some,List.getElem?_eq_getElem hk,wid (n:=200+(k:Int)) (by omega) (by omega),wsucc (by omega),List.take_length];dsimp only;generalize x.Defs[k]=f;cases identB f.Name
   ·rfl
   cases x.Inputs.any fun y=>decide (y.Name=f.Name)
   ·cases (x.Defs.take k).any fun y=>decide (y.Name=f.Name)
    ·cases validTypeB f.Type_ l.Enums<;>rfl
    ·rfl
   ·rfl) (fun _=>by unfold ref17_fieldError_L2;simp)
 rw [l1]
 cases ff (inF l x) x.Inputs.length with
 |some v=>rfl
 |none=>
  simp only [outR,Option.map_none,Option.bind_some];rw [l2];cases ff (defF l x) x.Defs.length<;>rfl
theorem ref17_scopeError_s {l:GLaw}(h:LawOk l) {i:Nat}(hi:i<l.Scopes.length):ref17_scopeError l (i:Int)=some (if (scopeE l i l.Scopes[i]).1=0 then ⟨0,0,0,0⟩else le3 i (scopeE l i l.Scopes[i])):=by
 obtain⟨g1,g2,g3,g4,g5,g6⟩:=h.s _ (List.getElem_mem hi);have hne:=h.ne;have hnt:=h.nt;have hns:=h.ns;have hF:=ref17_fieldError_s h hi;have hR:=fun {k:Nat} (hk:k<l.Scopes[i].Rules.length)=>ref17_ruleError_s h hi hk;unfold ref17_scopeError scopeE;rw [idxN hi,Option.bind_some];generalize l.Scopes[i]=x at g1 g2 g3 g4 g5 g6 hF hR⊢;have gd:=g2.defs;have gr:=g2.rules;rw [ref08_ident (by omega),Option.bind_some,taken3 h (by omega),Option.bind_some];cases identB x.Name
 ·rfl
 simp only [Bool.true_eq_false,if_false];cases (l.Enums.any fun y=>decide (y.Name=x.Name)) || ((l.Tables.any fun y=>decide (y.Name=x.Name)) || (l.Scopes.take i).any fun y=>decide (y.Name=x.Name))
 ·simp only [Bool.false_eq_true,if_false];rw [memBad_s (l:=l) (x:=x) hi rfl,Option.bind_some];cases memBad l i x
  ·simp only [Bool.false_eq_true,if_false];by_cases hI:12<x.Inputs.length
   ·rw [if_pos (by omega),if_pos hI];rfl
   rw [if_neg (by omega),if_neg hI];by_cases hD:12<x.Defs.length
   ·rw [if_pos (by omega),if_pos hD];rfl
   rw [if_neg (by omega),if_neg hD,hF,Option.bind_some];have l3:loopO (ref17_scopeError_L11 l (i:Int) x) 0=some (outR () ((ff (rulF l x) x.Rules.length).map (le3 i))):=by
    rw [←ff_map];exact loopF (fun k=>(k:Int)) _ _ _ (fun k hk _=>by
     unfold ref17_scopeError_L11 rulF;rw [if_pos (by omega),hR hk,Option.bind_some,List.getElem?_eq_getElem hk,wid (n:=300+(k:Int)) (by omega) (by omega),wsucc (by omega)];dsimp only;by_cases hz:ruleE x (sigS l x) k x.Rules[k]=0
     ·rw [if_neg (by simpa using hz),if_pos hz];rfl
     ·rw [if_pos hz,if_neg hz];rfl) (fun _=>by unfold ref17_scopeError_L11;simp)
   have l4:loopO (ref17_scopeError_L10 (i:Int) x) 0=some (outR () ((ff (cycF x) x.Defs.length).map (le3 i))):=by
    rw [←ff_map];exact loopF (fun k=>(k:Int)) _ _ _ (fun k hk _=>by
     have q3:=fun y=>mem_trN (s:=x) (d:=(k:Int)) (y:=y);have q2:=(trN_inv x (k:Int) x.Defs.length).len;have l5:loopO (ref17_scopeError_L9 (i:Int) (k:Int) (trN x (k:Int) x.Defs.length)) 0=some (outR () (ff (fun j=>if ((trN x (k:Int) x.Defs.length)[j]?.any fun y=>decide (y=(k:Int)))=true then some (Ex.ret (le3 i (9,200+(k:Int))))else none) (trN x (k:Int) x.Defs.length).length)):=
      loopF (fun j=>(j:Int)) _ _ _ (fun j hj _=>by
       unfold ref17_scopeError_L9;rw [if_pos (by omega),idxN hj,Option.bind_some,List.getElem?_eq_getElem hj,wid (n:=200+(k:Int)) (by omega) (by omega),wsucc (by omega)];simp only [Option.any_some,decide_eq_true_eq];by_cases he:(trN x (k:Int) x.Defs.length)[j]=(k:Int)
       ·rw [if_pos he,if_pos he];rfl
       ·rw [if_neg he,if_neg he];rfl) (fun _=>by unfold ref17_scopeError_L9;simp)
     unfold ref17_scopeError_L10 cycF;rw [if_pos (by omega),ref16_Transitive_s g2,Option.bind_some,l5,Option.bind_some,wsucc (by omega)];have hany:=ff_any (l:=trN x (k:Int) x.Defs.length) (q:=fun y=>decide (y=(k:Int))) (g:=fun _=>(Ex.ret (le3 i (9,200+(k:Int))):Ex Int Unit GLawError))
     cases h2:ff (fun j=>if ((trN x (k:Int) x.Defs.length)[j]?.any fun y=>decide (y=(k:Int)))=true then some (Ex.ret (le3 i (9,200+(k:Int))):Ex Int Unit GLawError)else none) (trN x (k:Int) x.Defs.length).length with
     |none=>
      rw [h2]at hany;rw [if_neg]
      ·rfl
      ·intro hw;have:=(List.any_eq_false.1 hany.symm) _ ((q3 _).2 hw);simp at this
     |some v=>
      rw [h2]at hany;obtain⟨y,hy,hyk⟩:=List.any_eq_true.1 hany.symm;have:y=(k:Int):=by simpa using hyk
      subst this;rw [if_pos ((q3 _).1 hy)];obtain⟨j,-,j2,-⟩:=ff_some.1 h2;split at j2
      ·injection j2 with j2;subst j2;rfl
      ·cases j2) (fun _=>by unfold ref17_scopeError_L10;simp)
   cases hf1:ff (inF l x) x.Inputs.length with
   |some v=>
    have:=ff_ne (f:=inF l x) inF_ne hf1;rw [if_pos (show¬(le3 i v).Code=0 from this),if_neg (show¬v.1=0 from this)]
   |none=>
    dsimp only
    cases hf2:ff (defF l x) x.Defs.length with
    |some v=>
     have:=ff_ne (f:=defF l x) defF_ne hf2;rw [if_pos (show¬(le3 i v).Code=0 from this),if_neg (show¬v.1=0 from this)]
    |none=>
     dsimp only;rw [if_neg (by simp),l3]
     cases hf3:ff (rulF l x) x.Rules.length with
     |some v=>
      have:=ff_ne (f:=rulF l x) rulF_ne hf3;simp only [Option.map_some,outR,Option.bind_some];rw [if_neg (show¬v.1=0 from this)]
     |none=>
      simp only [Option.map_none,outR,Option.bind_some];rw [l4]
      cases hf4:ff (cycF x) x.Defs.length with
      |some v=>
       have:=ff_ne (f:=cycF x) cycF_ne hf4;simp only [Option.map_some,outR,Option.bind_some,Option.getD_some];rw [if_neg (show¬v.1=0 from this)]
      |none=>rfl
  ·rfl
 ·rfl
noncomputable def validE (l:GLaw):GLawError:=
 if 8<l.Enums.length then ⟨4,1,8,0⟩
 else match ff (fun i=>match l.Enums[i]? with|some x=>if (enumE l i x).1=0 then none else some (⟨(enumE l i x).1,1,(i:Int),(enumE l i x).2⟩:GLawError)|none=>none) l.Enums.length with
  |some v=>v
  |none=>
   if 8<l.Tables.length then ⟨4,2,8,0⟩
   else match ff (fun i=>match l.Tables[i]? with|some x=>if (tabE l i x).1=0 then none else some (⟨(tabE l i x).1,2,(i:Int),(tabE l i x).2⟩:GLawError)|none=>none) l.Tables.length with
    |some v=>v
    |none=>
     if 4<l.Scopes.length then ⟨4,3,4,0⟩
     else (ff (fun i=>match l.Scopes[i]? with|some x=>if (scopeE l i x).1=0 then none else some (le3 i (scopeE l i x))|none=>none) l.Scopes.length).getD ⟨0,0,0,0⟩
theorem ff_code {f:Nat→Option GLawError}(hf:∀{k v},f k=some v→v.Code≠0) {n:Nat}{v:GLawError}(h:ff f n=some v):v.Code≠0:=by
 obtain⟨k,-,h2,-⟩:=ff_some.1 h;exact hf h2
theorem e_code {l:GLaw}{k:Nat}{v:GLawError}(h:(match l.Enums[k]? with|some x=>if (enumE l k x).1=0 then none else some (⟨(enumE l k x).1,1,(k:Int),(enumE l k x).2⟩:GLawError)|none=>none)=some v):v.Code≠0:=by
 split at h
 ·split at h
  ·cases h
  ·injection h with h;subst h;assumption
 ·cases h
theorem t_code {l:GLaw}{k:Nat}{v:GLawError}(h:(match l.Tables[k]? with|some x=>if (tabE l k x).1=0 then none else some (⟨(tabE l k x).1,2,(k:Int),(tabE l k x).2⟩:GLawError)|none=>none)=some v):v.Code≠0:=by
 split at h
 ·split at h
  ·cases h
  ·injection h with h;subst h;assumption
 ·cases h
theorem law_Validate_s {l:GLaw}(h:LawOk l):law_Validate l=some (validE l):=by
 have hne:=h.ne;have hnt:=h.nt;have hns:=h.ns;have le:loopO (law_checkEnums_L1 l) 0=some (outR () (ff (fun i=>match l.Enums[i]? with|some x=>if (enumE l i x).1=0 then none else some (⟨(enumE l i x).1,1,(i:Int),(enumE l i x).2⟩:GLawError)|none=>none) l.Enums.length)):=
  loopF (fun k=>(k:Int)) _ _ _ (fun k hk _=>by
   unfold law_checkEnums_L1;rw [if_pos (by omega),idxN hk,Option.bind_some,law_checkEnum_s h hk,Option.bind_some,List.getElem?_eq_getElem hk,wsucc (by omega)];dsimp only;by_cases hz:(enumE l k l.Enums[k]).1=0
   ·rw [if_neg (by simpa using hz),if_pos hz];rfl
   ·rw [if_pos hz,if_neg hz];rfl) (fun _=>by unfold law_checkEnums_L1;simp)
 have ls:loopO (law_checkScopes_L1 l) 0=some (outR () (ff (fun i=>match l.Scopes[i]? with|some x=>if (scopeE l i x).1=0 then none else some (le3 i (scopeE l i x))|none=>none) l.Scopes.length)):=
  loopF (fun k=>(k:Int)) _ _ _ (fun k hk _=>by
   unfold law_checkScopes_L1;rw [if_pos (by omega),law_checkScope_s h hk,Option.bind_some,List.getElem?_eq_getElem hk,wsucc (by omega)];dsimp only;by_cases hz:(scopeE l k l.Scopes[k]).1=0
   ·rw [if_neg (by simpa using hz),if_pos hz];rfl
   ·rw [if_pos hz,if_neg hz];rfl) (fun _=>by unfold law_checkScopes_L1;simp)
 unfold law_Validate law_checkEnums law_checkTables law_checkScopes validE;by_cases h8:8<l.Enums.length
 ·rw [if_pos (by omega),if_pos h8];rfl
 rw [if_neg (by omega),if_neg h8,le]
 cases hf1:ff (fun i=>match l.Enums[i]? with|some x=>if (enumE l i x).1=0 then none else some (⟨(enumE l i x).1,1,(i:Int),(enumE l i x).2⟩:GLawError)|none=>none) l.Enums.length with
 |some v=>
  have:=ff_code (f:=fun i=>match l.Enums[i]? with|some x=>if (enumE l i x).1=0 then none else some (⟨(enumE l i x).1,1,(i:Int),(enumE l i x).2⟩:GLawError)|none=>none) e_code hf1;simp only [outR,Option.bind_some];rw [if_pos this]
 |none=>
  simp only [outR,Option.bind_some];rw [if_neg (by simp)];by_cases h8:8<l.Tables.length
  ·rw [if_pos (by omega),if_pos h8];rfl
  rw [if_neg (by omega),if_neg h8,law_tab_s h]
  cases hf2:ff (fun i=>match l.Tables[i]? with|some x=>if (tabE l i x).1=0 then none else some (⟨(tabE l i x).1,2,(i:Int),(tabE l i x).2⟩:GLawError)|none=>none) l.Tables.length with
  |some v=>
   have:=ff_code (f:=fun i=>match l.Tables[i]? with|some x=>if (tabE l i x).1=0 then none else some (⟨(tabE l i x).1,2,(i:Int),(tabE l i x).2⟩:GLawError)|none=>none) t_code hf2;simp only [outR,Option.bind_some];rw [if_pos this]
  |none=>
   simp only [outR,Option.bind_some];rw [if_neg (by simp)];by_cases h8:4<l.Scopes.length
   ·rw [if_pos (by omega),if_pos h8];rfl
   rw [if_neg (by omega),if_neg h8,ls];cases ff (fun i=>match l.Scopes[i]? with|some x=>if (scopeE l i x).1=0 then none else some (le3 i (scopeE l i x))|none=>none) l.Scopes.length<;>rfl
theorem ref17_Validate_s {l:GLaw}(h:LawOk l):ref17_Validate l=some (validE l):=by
 have hne:=h.ne;have hnt:=h.nt;have hns:=h.ns;have le:loopO (ref17_Validate_L5 l) 0=some (outR () (ff (fun i=>match l.Enums[i]? with|some x=>if (enumE l i x).1=0 then none else some (⟨(enumE l i x).1,1,(i:Int),(enumE l i x).2⟩:GLawError)|none=>none) l.Enums.length)):=
  loopF (fun k=>(k:Int)) _ _ _ (fun k hk _=>by
   unfold ref17_Validate_L5;rw [if_pos (by omega),ref17_enumError_s h hk,Option.bind_some,List.getElem?_eq_getElem hk,wsucc (by omega)];dsimp only;by_cases hz:(enumE l k l.Enums[k]).1=0
   ·rw [if_pos hz,if_neg (by simp),if_pos hz];rfl
   ·rw [if_neg hz,if_pos (by simpa using hz),if_neg hz];rfl) (fun _=>by unfold ref17_Validate_L5;simp)
 have lt:loopO (ref17_Validate_L4 l) 0=some (outR () (ff (fun i=>match l.Tables[i]? with|some x=>if (tabE l i x).1=0 then none else some (⟨(tabE l i x).1,2,(i:Int),(tabE l i x).2⟩:GLawError)|none=>none) l.Tables.length)):=
  loopF (fun k=>(k:Int)) _ _ _ (fun k hk _=>by
   unfold ref17_Validate_L4;rw [if_pos (by omega),ref17_tableError_s h hk,Option.bind_some,List.getElem?_eq_getElem hk,wsucc (by omega)];dsimp only;by_cases hz:(tabE l k l.Tables[k]).1=0
   ·rw [if_pos hz,if_neg (by simp),if_pos hz];rfl
   ·rw [if_neg hz,if_pos (by simpa using hz),if_neg hz];rfl) (fun _=>by unfold ref17_Validate_L4;simp)
 have ls:loopO (ref17_Validate_L3 l) 0=some (outR () (ff (fun i=>match l.Scopes[i]? with|some x=>if (scopeE l i x).1=0 then none else some (le3 i (scopeE l i x))|none=>none) l.Scopes.length)):=
  loopF (fun k=>(k:Int)) _ _ _ (fun k hk _=>by
   unfold ref17_Validate_L3;rw [if_pos (by omega),ref17_scopeError_s h hk,Option.bind_some,List.getElem?_eq_getElem hk,wsucc (by omega)];dsimp only;by_cases hz:(scopeE l k l.Scopes[k]).1=0
   ·rw [if_pos hz,if_neg (by simp),if_pos hz];rfl
   ·rw [if_neg hz,if_pos (by simpa [le3] using hz),if_neg hz];rfl) (fun _=>by unfold ref17_Validate_L3;simp)
 unfold ref17_Validate validE;by_cases h8:8<l.Enums.length
 ·rw [if_pos (by omega),if_pos h8]
 rw [if_neg (by omega),if_neg h8,le]
 cases ff (fun i=>match l.Enums[i]? with|some x=>if (enumE l i x).1=0 then none else some (⟨(enumE l i x).1,1,(i:Int),(enumE l i x).2⟩:GLawError)|none=>none) l.Enums.length with
 |some v=>rfl
 |none=>
  simp only [outR,Option.bind_some];by_cases h8:8<l.Tables.length
  ·rw [if_pos (by omega),if_pos h8]
  rw [if_neg (by omega),if_neg h8,lt]
  cases ff (fun i=>match l.Tables[i]? with|some x=>if (tabE l i x).1=0 then none else some (⟨(tabE l i x).1,2,(i:Int),(tabE l i x).2⟩:GLawError)|none=>none) l.Tables.length with
  |some v=>rfl
  |none=>
   simp only [outR,Option.bind_some];by_cases h8:4<l.Scopes.length
   ·rw [if_pos (by omega),if_pos h8]
   rw [if_neg (by omega),if_neg h8,ls];cases ff (fun i=>match l.Scopes[i]? with|some x=>if (scopeE l i x).1=0 then none else some (le3 i (scopeE l i x))|none=>none) l.Scopes.length<;>rfl
end Go.Proofs.Dev
namespace Go.Proofs.Dev
open Go Go.Tm
structure Valid (l:GLaw):Prop where
 e:∀i (h:i<l.Enums.length),(enumE l i l.Enums[i]).1=0
 t:∀i (h:i<l.Tables.length),(tabE l i l.Tables[i]).1=0
 s:∀i (h:i<l.Scopes.length),(scopeE l i l.Scopes[i]).1=0
 ne:l.Enums.length≤8
 nt:l.Tables.length≤8
 ns:l.Scopes.length≤4
theorem valid_of {l:GLaw}(h:(validE l).Code=0):Valid l:=by
 unfold validE at h;split at h
 ·simp at h
 rename_i h1;split at h
 ·rename_i v hv;exact(ff_code (f:=fun i=>match l.Enums[i]? with|some x=>if (enumE l i x).1=0 then none else some (⟨(enumE l i x).1,1,(i:Int),(enumE l i x).2⟩:GLawError)|none=>none) e_code hv h).elim
 rename_i he;split at h
 ·simp at h
 rename_i h2;split at h
 ·rename_i v hv;exact(ff_code (f:=fun i=>match l.Tables[i]? with|some x=>if (tabE l i x).1=0 then none else some (⟨(tabE l i x).1,2,(i:Int),(tabE l i x).2⟩:GLawError)|none=>none) t_code hv h).elim
 rename_i ht;split at h
 ·simp at h
 rename_i h3;refine⟨fun i hi=>?_,fun i hi=>?_,fun i hi=>?_,by omega,by omega,by omega⟩
 ·have:=ff_none.1 he i hi;rw [List.getElem?_eq_getElem hi]at this;dsimp only at this;split at this
  ·assumption
  ·cases this
 ·have:=ff_none.1 ht i hi;rw [List.getElem?_eq_getElem hi]at this;dsimp only at this;split at this
  ·assumption
  ·cases this
 ·generalize hf:ff _ l.Scopes.length=o at h
  cases o with
  |some v=>
   rw [Option.getD_some]at h;obtain⟨k,k1,k2,-⟩:=ff_some.1 hf;rw [List.getElem?_eq_getElem k1]at k2;dsimp only at k2;split at k2
   ·cases k2
   ·rename_i hne;injection k2 with k2;subst k2;exact(hne h).elim
  |none=>
   have:=ff_none.1 hf i hi;rw [List.getElem?_eq_getElem hi]at this;dsimp only at this;split at this
   ·assumption
   ·cases this
end Go.Proofs.Dev
namespace Go.Proofs.Dev
open Go Go.Tm
theorem badLoop {n:Nat}(hn:n≤1048576) (bad:Nat→Bool) {step:Int→Option (Ex Int Unit Bool)}(hstep:∀i:Nat,i<n→step (i:Int)=if bad i=true then some (.ret false)else some (.go (wrapF .i64 ((i:Int)+1)))) (hend:step (n:Int)=some (.brk ())) :
 (loopO step 0=some (.inr false))∨(loopO step 0=some (.inl ())∧∀i,i<n→bad i=false):=by
 have h:=loopF (step:=step) (x0:=0) (fun i=>(i:Int)) (fun i=>if bad i=true then some false else none) n () (fun i hi _=>by
  rw [hstep i hi,wsucc (by omega)];cases bad i<;>rfl) (fun _=>hend)
 cases hf:ff (fun i=>if bad i=true then some false else none) n with
 |none=>
  right;rw [hf]at h;refine⟨h,fun i hi=>?_⟩;have:=ff_none.1 hf i hi
  cases hb:bad i with
  |false=>rfl
  |true=>simp [hb]at this
 |some v=>
  left;rw [hf]at h;obtain⟨k,-,k2,-⟩:=ff_some.1 hf;split at k2
  ·injection k2 with k2;subst k2;exact h
  ·cases k2
structure SmallSc (s:GScope):Prop where
 nm:s.Name.size≤80
 ins:s.Inputs.length≤14
 defs:s.Defs.length≤14
 rules:s.Rules.length≤60
 i:∀f∈s.Inputs,f.Name.size≤80
 d:∀f∈s.Defs,f.Name.size≤80
 r:∀r∈s.Rules,r.Name.size≤80∧r.Source.size≤80∧r.Guard.length≤50∧r.Value.length≤50
theorem smallScope_s (s:GScope):∃b,same_smallScope s=some b∧(b=true→SmallSc s):=by
 unfold same_smallScope;by_cases h1:80<(s.Name.size:Int)
 ·exact⟨false,by simp [h1],by simp⟩
 by_cases h2:14<(s.Inputs.length:Int)
 ·exact⟨false,by simp [h1,h2],by simp⟩
 by_cases h3:14<(s.Defs.length:Int)
 ·exact⟨false,by simp [h1,h2,h3],by simp⟩
 by_cases h4:60<(s.Rules.length:Int)
 ·exact⟨false,by simp [h1,h2,h3,h4],by simp⟩
 have hc:(if¬80<(s.Name.size:Int)then if¬14<(s.Inputs.length:Int)then if¬14<(s.Defs.length:Int)then some (decide (60<(s.Rules.length:Int)))else some true else some true else some true)=some false:=by
  rw [if_pos h1,if_pos h2,if_pos h3,decide_eq_false h4]
 rw [hc,Option.bind_some,if_neg (by simp)];rcases badLoop (n:=s.Inputs.length) (by omega) (fun i=>match s.Inputs[i]? with|some f=>decide (80<(f.Name.size:Int))|none=>false) (step:=same_smallScope_L5 s) (fun i hi=>by
  unfold same_smallScope_L5;rw [if_pos (by omega),idxN hi,Option.bind_some,List.getElem?_eq_getElem hi];simp only [decide_eq_true_eq]) (by unfold same_smallScope_L5;simp)with k|⟨k,k1⟩
 ·exact⟨false,by rw [k];rfl,by simp⟩
 rw [k,Option.bind_some];dsimp only;rcases badLoop (n:=s.Defs.length) (by omega) (fun i=>match s.Defs[i]? with|some f=>decide (80<(f.Name.size:Int))|none=>false) (step:=same_smallScope_L4 s) (fun i hi=>by
  unfold same_smallScope_L4;rw [if_pos (by omega),idxN hi,Option.bind_some,List.getElem?_eq_getElem hi];simp only [decide_eq_true_eq]) (by unfold same_smallScope_L4;simp)with k|⟨k,k2⟩
 ·exact⟨false,by rw [k];rfl,by simp⟩
 rw [k,Option.bind_some];dsimp only;rcases badLoop (n:=s.Rules.length) (by omega) (fun i=>match s.Rules[i]? with|some r=>decide (80<(r.Name.size:Int)∨80<(r.Source.size:Int)∨50<(r.Guard.length:Int)∨50<(r.Value.length:Int))|none=>false) (step:=same_smallScope_L3 s) (fun i hi=>by
  unfold same_smallScope_L3;rw [if_pos (by omega),idxN hi,Option.bind_some,List.getElem?_eq_getElem hi];generalize s.Rules[i]=r;by_cases r1:80<(r.Name.size:Int)
  ·simp [r1]
  by_cases r2:80<(r.Source.size:Int)
  ·simp [r1,r2]
  by_cases r3:50<(r.Guard.length:Int)
  ·simp [r1,r2,r3]
  ·simp [r1,r2,r3]) (by unfold same_smallScope_L3;simp)with k|⟨k,k3⟩
 ·exact⟨false,by rw [k];rfl,by simp⟩
 rw [k,Option.bind_some];refine⟨true,rfl,fun _=>⟨by omega,by omega,by omega,by omega,?_,?_,?_⟩⟩
 ·intro f hf;obtain⟨i,hi,rfl⟩:=List.getElem_of_mem hf;have:=k1 i hi;rw [List.getElem?_eq_getElem hi]at this;simp at this;omega
 ·intro f hf;obtain⟨i,hi,rfl⟩:=List.getElem_of_mem hf;have:=k2 i hi;rw [List.getElem?_eq_getElem hi]at this;simp at this;omega
 ·intro r hr;obtain⟨i,hi,rfl⟩:=List.getElem_of_mem hr;have:=k3 i hi;rw [List.getElem?_eq_getElem hi]at this;simp only [decide_eq_false_iff_not]at this;omega
structure SmallL (l:GLaw):Prop where
 ne:l.Enums.length≤9
 nt:l.Tables.length≤9
 ns:l.Scopes.length≤5
 e:∀x∈l.Enums,x.Name.size≤80∧x.Members.length≤20∧∀m∈x.Members,m.size≤80
 t:∀x∈l.Tables,x.Name.size≤80
 s:∀x∈l.Scopes,SmallSc x
def rowsTo (l:GLaw):Nat→Int
 |0=>0
 |k+1=>match l.Tables[k]? with|some t=>wrapF .i64 (rowsTo l k+(t.Rows.length:Int))|none=>rowsTo l k
def rulesTo (l:GLaw):Nat→Int
 |0=>0
 |k+1=>match l.Scopes[k]? with|some t=>wrapF .i64 (rulesTo l k+(t.Rules.length:Int))|none=>rulesTo l k
def enBad (l:GLaw) (i:Nat):Bool:=match l.Enums[i]? with|some x=>decide (80<(x.Name.size:Int)) || decide (20<(x.Members.length:Int)) || (x.Members.any fun m=>decide (80<(m.size:Int)))|none=>false
theorem enBad_eq {l:GLaw}{i:Nat}(hi:i<l.Enums.length):enBad l i=(decide (80<(l.Enums[i].Name.size:Int)) || decide (20<(l.Enums[i].Members.length:Int)) || (l.Enums[i].Members.any fun m=>decide (80<(m.size:Int)))):=by
 unfold enBad;rw [List.getElem?_eq_getElem hi]
theorem same_SmallLaw_s (l:GLaw):∃b,same_SmallLaw l=some b∧(b=true→SmallL l):=by
 unfold same_SmallLaw;by_cases h1:9<(l.Enums.length:Int)
 ·exact⟨false,by simp [h1],by simp⟩
 by_cases h2:9<(l.Tables.length:Int)
 ·exact⟨false,by simp [h1,h2],by simp⟩
 by_cases h3:5<(l.Scopes.length:Int)
 ·exact⟨false,by simp [h1,h2,h3],by simp⟩
 have hc:(if¬9<(l.Enums.length:Int)then if¬9<(l.Tables.length:Int)then some (decide (5<(l.Scopes.length:Int)))else some true else some true)=some false:=by
  rw [if_pos h1,if_pos h2,decide_eq_false h3]
 rw [hc,Option.bind_some,if_neg (by simp)];have hin:∀i (hi:i<l.Enums.length),l.Enums[i].Members.length≤20→loopO (same_SmallLaw_L8 l (i:Int)) 0=some (if (l.Enums[i].Members.any fun m=>decide (80<(m.size:Int)))=true then .inr (.ret false)else .inl ()):=by
  intro i hi hm;have h:=loopF (step:=same_SmallLaw_L8 l (i:Int)) (x0:=0) (fun k=>(k:Int)) (fun k=>if (l.Enums[i].Members[k]?.any fun m=>decide (80<(m.size:Int)))=true then some (Ex.ret false)else none) l.Enums[i].Members.length () (fun k hk _=>by
   unfold same_SmallLaw_L8;rw [idxN hi,Option.bind_some,if_pos (by omega),idxN hk,Option.bind_some,List.getElem?_eq_getElem hk,wsucc (by omega)];simp only [Option.any_some,decide_eq_true_eq];by_cases hb:80<(l.Enums[i].Members[k].size:Int)
   ·rw [if_pos hb,if_pos hb];rfl
   ·rw [if_neg hb,if_neg hb];rfl) (fun _=>by unfold same_SmallLaw_L8;rw [idxN hi,Option.bind_some,if_neg (by omega)])
  rw [h,←ff_any (g:=fun _=>(Ex.ret false:Ex Int Unit Bool))]
  cases hf:ff (fun k=>if (l.Enums[i].Members[k]?.any fun m=>decide (80<(m.size:Int)))=true then some (Ex.ret false:Ex Int Unit Bool)else none) l.Enums[i].Members.length with
  |none=>rfl
  |some v=>
   obtain⟨k,-,k2,-⟩:=ff_some.1 hf;split at k2
   ·injection k2 with k2;subst k2;rfl
   ·cases k2
 rcases badLoop (n:=l.Enums.length) (by omega) (enBad l) (step:=same_SmallLaw_L13 l) (fun i hi=>by
  have hin:=hin i hi;unfold same_SmallLaw_L13;rw [if_pos (by omega),idxN hi,Option.bind_some,enBad_eq hi];generalize l.Enums[i]=x at hin⊢;by_cases r1:80<(x.Name.size:Int)
  ·simp [r1]
  by_cases r2:20<(x.Members.length:Int)
  ·simp [r1,r2]
  ·rw [if_pos r1,Option.bind_some,if_neg (by simpa using r2),hin (by omega),Option.bind_some];generalize (x.Members.any fun m=>decide (80<(m.size:Int)))=c;cases c
   ·rw [if_neg (show¬(decide (80<(x.Name.size:Int)) || decide (20<(x.Members.length:Int)) || false)=true by simp only [Bool.or_false,Bool.or_eq_true,decide_eq_true_eq];omega)];rfl
   ·rw [if_pos (show (decide (80<(x.Name.size:Int)) || decide (20<(x.Members.length:Int)) || true)=true by simp)];rfl) (by unfold same_SmallLaw_L13;simp)with k|⟨k,k1⟩
 ·exact⟨false,by rw [k];rfl,by simp⟩
 rw [k,Option.bind_some];dsimp only;have hT:=loopF (step:=same_SmallLaw_L12 l) (x0:=(0,0)) (fun i=>(rowsTo l i,(i:Int))) (fun i=>match l.Tables[i]? with|some x=>if (decide (80<(x.Name.size:Int)) || decide (150<rowsTo l (i+1)))=true then some false else none|none=>none) l.Tables.length () (fun i hi _=>by
  unfold same_SmallLaw_L12;simp only [rowsTo,List.getElem?_eq_getElem hi];rw [if_pos (by omega),idxN hi,Option.bind_some,wsucc (by omega)];generalize l.Tables[i]=x;generalize wrapF .i64 (rowsTo l i+(x.Rows.length:Int))=w;by_cases r1:80<(x.Name.size:Int)
  ·simp [r1,goR]
  ·by_cases r2:150<w<;>simp [r1,r2,goR]) (fun _=>by unfold same_SmallLaw_L12;simp)
 rw [hT,Option.bind_some]
 cases hf:ff (fun i=>match l.Tables[i]? with|some x=>if (decide (80<(x.Name.size:Int)) || decide (150<rowsTo l (i+1)))=true then some false else none|none=>none) l.Tables.length with
 |some v=>
  refine⟨false,?_,by simp⟩;obtain⟨j,j1,j2,-⟩:=ff_some.1 hf;rw [List.getElem?_eq_getElem j1]at j2;dsimp only at j2;split at j2
  ·injection j2 with j2;subst j2;rfl
  ·cases j2
 |none=>
  have ht2:=ff_none.1 hf;dsimp only [outR];have hS:=loopF (step:=same_SmallLaw_L11 l) (x0:=(0,0)) (fun i=>(rulesTo l i,(i:Int))) (fun i=>match l.Scopes[i]? with|some x=>if (decide (60<rulesTo l (i+1)) || !((same_smallScope x).getD true))=true then some false else none|none=>none) l.Scopes.length () (fun i hi _=>by
   unfold same_SmallLaw_L11;simp only [rulesTo,List.getElem?_eq_getElem hi];rw [if_pos (by omega),idxN hi,Option.bind_some,wsucc (by omega)];obtain⟨b,hb,-⟩:=smallScope_s l.Scopes[i];rw [hb];generalize wrapF .i64 (rulesTo l i+(l.Scopes[i].Rules.length:Int))=w;by_cases r1:60<w
   ·simp [r1,goR]
   ·cases b<;>simp [r1,goR]) (fun _=>by unfold same_SmallLaw_L11;simp)
  rw [hS,Option.bind_some]
  cases hf2:ff (fun i=>match l.Scopes[i]? with|some x=>if (decide (60<rulesTo l (i+1)) || !((same_smallScope x).getD true))=true then some false else none|none=>none) l.Scopes.length with
  |some v=>
   refine⟨false,?_,by simp⟩;obtain⟨j,j1,j2,-⟩:=ff_some.1 hf2;rw [List.getElem?_eq_getElem j1]at j2;dsimp only at j2;split at j2
   ·injection j2 with j2;subst j2;rfl
   ·cases j2
  |none=>
   have hs2:=ff_none.1 hf2;refine⟨true,rfl,fun _=>⟨by omega,by omega,by omega,?_,?_,?_⟩⟩
   ·intro x hx;obtain⟨i,hi,rfl⟩:=List.getElem_of_mem hx;have:=k1 i hi;rw [enBad_eq hi]at this;simp only [Bool.or_eq_false_iff,decide_eq_false_iff_not]at this;refine⟨by omega,by omega,fun m hm=>?_⟩;have h5:=List.any_eq_false.1 this.2 m hm;simp at h5;omega
   ·intro x hx;obtain⟨i,hi,rfl⟩:=List.getElem_of_mem hx;have:=ht2 i hi;rw [List.getElem?_eq_getElem hi]at this;dsimp only at this;split at this
    ·cases this
    ·rename_i hn;simp only [Bool.or_eq_true,decide_eq_true_eq,not_or]at hn;omega
   ·intro x hx;obtain⟨i,hi,rfl⟩:=List.getElem_of_mem hx;have:=hs2 i hi;rw [List.getElem?_eq_getElem hi]at this;dsimp only at this;split at this
    ·cases this
    ·rename_i hn;obtain⟨b,hb,hb2⟩:=smallScope_s l.Scopes[i];rw [hb]at hn;simp at hn;exact hb2 hn.2
def LawTy (l:GLaw):Prop:=∀s∈l.Scopes,∀r∈s.Rules,(∀n∈r.Guard,NodeOk n)∧∀n∈r.Value,NodeOk n
theorem SmallL.ok {l:GLaw}(h:SmallL l) (ht:LawTy l):LawOk l:=by
 have hne:=h.ne;have hnt:=h.nt;have hns:=h.ns;refine⟨by omega,by omega,by omega,fun x hx=>?_,fun x hx=>?_,fun x hx=>?_⟩
 ·obtain⟨a,b,c⟩:=h.e x hx;exact⟨by omega,fun m hm=>by have:=c m hm;omega⟩
 ·have:=h.t x hx;omega
 ·obtain⟨a,b,c,d,e,f,g⟩:=h.s x hx;refine⟨by omega,⟨by omega,by omega,fun r hr=>by have:=g r hr;omega⟩,by omega,fun q hq=>by have:=e q hq;omega,fun q hq=>by have:=f q hq;omega,fun r hr=>?_⟩;have:=g r hr;obtain⟨t1,t2⟩:=ht x hx r hr;exact⟨by omega,by omega,t1,t2⟩
end Go.Proofs.Dev
namespace Go.Proofs.Dev
open Go Go.Tm
theorem rng {a b c:Int}:(if¬a<b then some (decide (c<a))else some true)=some (decide (a<b) || decide (c<a)):=by
 by_cases h:a<b<;>simp [h]
theorem outside_s (a b c:Int):ref36_outside a b c=some (decide (a<b) || decide (c<a)):=by
 unfold ref36_outside;rw [rng];rfl
theorem calStep (c:GCalendar):workday_Valid_L1 c=ref06_Valid_L1 c:=by
 funext s;unfold workday_Valid_L1 ref06_Valid_L1;split
 ·cases idx c.Holidays s<;>rfl
 ·rfl
theorem cal_eq (c:GCalendar):workday_Valid c=ref06_Valid c:=by
 unfold workday_Valid ref06_Valid;rw [calStep]
theorem calEx {c:GCalendar}(h:c.Holidays.length≤1048576):∃b,workday_Valid c=some b:=by
 have hs:∀i:Nat,i<c.Holidays.length→workday_Valid_L1 c (i:Int)=some (.ret false)∨workday_Valid_L1 c (i:Int)=some (.go (wrapF .i64 ((i:Int)+1))):=by
  intro i hi;unfold workday_Valid_L1;rw [if_pos (by omega),idxN hi,Option.bind_some];unfold workday_validDate;generalize c.Holidays[i]=x;by_cases h1:0≤x
  ·by_cases h2:x≤109572
   ·by_cases h3:0<i
    ·obtain⟨k,rfl⟩:∃k,i=k+1:=⟨i-1,by omega⟩;have h4:wrapF .i64 (((k+1:Nat):Int)-1)=(k:Int):=by rw [wid (by omega) (by omega)];omega
     have h5:(0:Int)<((k+1:Nat):Int):=by omega
     rw [h4,idxN (show k<c.Holidays.length by omega)];by_cases h6:x≤c.Holidays[k]
     ·left;simp [h1,h2,h5,h6]
     ·right;simp [h1,h2,h5,h6]
    ·have h5:¬(0:Int)<(i:Int):=by omega
     right;rw [if_neg h5];simp [h1,h2]
   ·left;simp [h1,h2]
  ·left;simp [h1]
 classical
 unfold workday_Valid;rw [show (if¬c.Weekend<0 then if¬126<c.Weekend then some (decide (64<(c.Holidays.length:Int)))else some true else some true)=some (decide (c.Weekend<0) || (decide (126<c.Weekend) || decide (64<(c.Holidays.length:Int)))) by
  by_cases g1:c.Weekend<0<;>by_cases g2:126<c.Weekend<;>simp [g1,g2],Option.bind_some]
 split
 ·exact⟨_,rfl⟩
 ·rcases badLoop h (fun i=>decide (workday_Valid_L1 c (i:Int)=some (.ret false))) (step:=workday_Valid_L1 c) (fun i hi=>by
   rcases hs i hi with g|g
   ·simp [g]
   ·simp [g]) (by unfold workday_Valid_L1;simp)with g|⟨g,-⟩
  ·exact⟨false,by rw [g];rfl⟩
  ·exact⟨true,by rw [g];rfl⟩
theorem validE_zero {l:GLaw}(h:(validE l).Code=0):validE l=⟨0,0,0,0⟩:=by
 unfold validE at h⊢;split at h
 ·simp at h
 rename_i h1;rw [if_neg h1];generalize hE:ff _ l.Enums.length=oe at h⊢
 cases oe with
 |some v=>exact(ff_code (f:=fun i=>match l.Enums[i]? with|some x=>if (enumE l i x).1=0 then none else some (⟨(enumE l i x).1,1,(i:Int),(enumE l i x).2⟩:GLawError)|none=>none) e_code hE h).elim
 |none=>
 dsimp only at h⊢;split at h
 ·simp at h
 rename_i h2;rw [if_neg h2];generalize hT:ff _ l.Tables.length=ot at h⊢
 cases ot with
 |some v=>exact(ff_code (f:=fun i=>match l.Tables[i]? with|some x=>if (tabE l i x).1=0 then none else some (⟨(tabE l i x).1,2,(i:Int),(tabE l i x).2⟩:GLawError)|none=>none) t_code hT h).elim
 |none=>
 dsimp only at h⊢;split at h
 ·simp at h
 rename_i h3;rw [if_neg h3];generalize hf:ff _ l.Scopes.length=o at h⊢
 cases o with
 |none=>rfl
 |some v=>
  rw [Option.getD_some]at h;obtain⟨k,k1,k2,-⟩:=ff_some.1 hf;rw [List.getElem?_eq_getElem k1]at k2;dsimp only at k2;split at k2
  ·cases k2
  ·injection k2 with k2;subst k2;rename_i hne;exact(hne h).elim
theorem def_type {l:GLaw}(hV:Valid l) {i k:Nat}(hi:i<l.Scopes.length) (hk:k<l.Scopes[i].Defs.length):validTypeB l.Scopes[i].Defs[k].Type_ l.Enums=true:=by
 have h:=hV.s i hi;generalize l.Scopes[i]=x at h hk⊢;unfold scopeE at h
 repeat' split at h
 all_goals first|(simp at h;done)|skip
 ·rename_i v hv;exact(ff_ne inF_ne hv h).elim
 ·rename_i v hv;exact(ff_ne defF_ne hv h).elim
 ·rename_i v hv;exact(ff_ne rulF_ne hv h).elim
 ·rename_i hd _ _;have:=ff_none.1 hd k hk;unfold defF at this;rw [List.getElem?_eq_getElem hk]at this;dsimp only at this;split at this
  ·rename_i hz;unfold fieldE at hz;split at hz
   ·simp at hz
   ·split at hz
    ·simp at hz
    ·split at hz
     ·simp at hz
     ·rename_i hb;simpa using hb
  ·cases this
theorem config_eq {l:GLaw}(h:LawOk l) {c:GPayConfig}(hc:c.Calendar.Holidays.length≤1048576) (sc:Int):∃n,award_ValidateConfig l sc c=some n∧ref36_ValidateConfig l sc c=some n:=by
 have key:award_ValidateConfig l sc c=ref36_ValidateConfig l sc c∧∃n,ref36_ValidateConfig l sc c=some n:=by
  unfold award_ValidateConfig ref36_ValidateConfig ref17_IsValid;rw [law_Validate_s h,ref17_Validate_s h];simp only [Option.bind_some];by_cases hv:(validE l).Code=0
  ·have hV:=valid_of hv;rw [validE_zero hv];simp only [not_true_eq_false,if_false,and_self,beq_self_eq_true,Bool.true_eq_false];obtain⟨b,hb⟩:=calEx hc;have hb2:ref06_Valid c.Calendar=some b:=by rw [←cal_eq];exact hb
   by_cases h1:sc<0
   ·simp [h1]
   by_cases h2:(l.Scopes.length:Int)≤sc
   ·simp [h1,h2]
   by_cases h3:c.Def<0
   ·simp [h1,h2,h3]
   obtain⟨i,rfl⟩:∃i:Nat,sc=(i:Int):=⟨sc.toNat,by omega⟩;have hi:i<l.Scopes.length:=by omega
   rw [if_pos h1,if_pos h2,if_pos h3,idxN hi,Option.bind_some,Option.bind_some];by_cases h4:(l.Scopes[i].Defs.length:Int)≤c.Def
   ·simp [h4]
   obtain⟨k,hk⟩:∃k:Nat,c.Def=(k:Int):=⟨c.Def.toNat,by omega⟩;have hkl:k<l.Scopes[i].Defs.length:=by omega
   rw [show decide ((l.Scopes[i].Defs.length:Int)≤c.Def)=false by simpa using h4];have ht:=def_type hV hi hkl;simp only [hk,idxN hkl,Option.bind_some,Bool.false_eq_true,if_false];generalize l.Scopes[i].Defs[k].Type_=t at ht⊢;by_cases h5:t.Kind=3
   ·have h6:t.Enum=0:=by
     unfold validTypeB at ht;rw [if_neg (by omega)]at ht;simp at ht;exact ht.2
    simp only [h5,h6,and_self,not_true_eq_false,if_false,outside_s,rng,hb,hb2,Option.bind_some];by_cases g1:c.Rounding<0
    ·simp [g1]
    by_cases g2:5<c.Rounding
    ·simp [g1,g2]
    rw [if_pos g1,if_pos g2];simp only [g1,g2,decide_false,Bool.or_self,if_true,Option.bind_some];cases b
    ·simp
    simp only [Bool.not_true,Bool.false_eq_true,if_false];generalize (decide (c.PayDay<1) || decide (28<c.PayDay))=b1;generalize (decide (c.RecoveryCap<0) || decide (1000000<c.RecoveryCap))=b2;generalize (decide (c.RecoveryFloor<0) || decide (1000000000000000<c.RecoveryFloor))=b3;generalize (decide (c.FirstMonth<0) || decide (3599<c.FirstMonth))=b4;generalize (decide (c.AppealDays<0) || decide (365<c.AppealDays))=b5;cases b1<;>cases b2<;>cases b3<;>cases b4<;>cases b5<;>simp
   ·simp [h5]
  ·have:((validE l).Code==0)=false:=by simpa using hv
   simp [hv,this]
 obtain⟨h1,n,h2⟩:=key;exact⟨n,by rw [h1];exact h2,h2⟩
theorem AwardConfig_plain {l:GLaw}(ht:LawTy l) (haw:law36_awake=some true) (sc:Int) (c:GPayConfig):law36_AwardConfig l sc c=some true:=by
 unfold law36_AwardConfig same_SmallConfig;obtain⟨b,hb,hb2⟩:=same_SmallLaw_s l;rw [hb,haw]
 cases b with
 |false=>rfl
 |true=>
  simp only [Option.bind_some,if_true];by_cases h:(c.Calendar.Holidays.length:Int)≤70
  ·obtain⟨n,h1,h2⟩:=config_eq ((hb2 rfl).ok ht) (c:=c) (by omega) sc;simp [h,h1,h2]
  ·simp [h]
end Go.Proofs.Dev
