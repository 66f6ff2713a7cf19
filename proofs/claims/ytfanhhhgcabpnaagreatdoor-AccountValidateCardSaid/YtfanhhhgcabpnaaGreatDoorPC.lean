/-
  The functions as plain partial functions, and plain lemmas about them: no condition.
-/
import Derived.Test.YtfanhhhgcabpnaaGreatDoorPB
open Classical renaming not_not→ko
open List renaming any_eq_false→qq,getElem?_eq_getElem→pn,getElem_of_mem→Co,mem_take_iff_getElem→Dr,take_add_one→Wo
open Option renaming any_some→Ro,bind→qn,bind_some→nn
set_option linter.all false
set_option maxRecDepth 10000
set_option maxHeartbeats 1000000
namespace Go.Proofs.Dev
open Go Go.Tm
def neB(r:GDateRange):Bool:=decide (0≤r.From)&&(decide (r.To≤109573)&&decide (r.From<r.To))
theorem valid3{a b c:Prop} [Decidable a] [Decidable b] [Decidable c] {k:Bool→Option Bool}:((qn (if a then if b then some (decide c)else some false else some false) fun j=>some j).bind k)=k (decide a&&(decide b&&decide c)):=by
 by_cases h1:a<;>by_cases h2:b<;>simp[h1,h2]
theorem facts_nonempty_s(r:GDateRange):facts_nonempty r=some (neB r):=by
 unfold facts_nonempty daterange_Valid neB;rw[valid3];by_cases h1:0≤r.From<;>by_cases h2:r.From≤r.To<;>by_cases h3:r.To≤109573<;>simp[h1,h2,h3]<;>omega
theorem ref34_nonempty_s(r:GDateRange):ref34_nonempty r=some (neB r):=by
 unfold ref34_nonempty ref05_Valid neB;rw[valid3];by_cases h1:0≤r.From<;>by_cases h2:r.From≤r.To<;>by_cases h3:r.To≤109573<;>simp[h1,h2,h3]<;>omega
def ends:List GDateRange→List Int
 |[]=>[]
 |r::l=>(if neB r=true then [r.From,r.To]else [])++ends l
theorem take_snoc{α:Type}{l:List α}{i:Nat}(h:i<l.length):l.take (i+1)=l.take i++[l[i]]:=by
 rw[Wo,pn h];rfl
theorem loopL{α β:Type}{n:Nat}{l:List α}(hn:n=l.length) {step:List β×Int→Option (Ex (List β×Int) (List β) Unit)}(g:List α→List β) (x0:List β)
 (hgo:∀i (h:i<l.length),step (x0++g (l.take i),(i:Int))=some (.go (x0++g (l.take (i+1)),((i+1:Nat):Int)))) (hend:∀x,step (x,(n:Int))=some (.brk x)) (h0:g []=[]):loopO step (x0,0)=some (.inl (x0++g l)):=by
 subst hn;refine loopG (fun i=>(x0++g (l.take i),(i:Int))) l.length _ (fun i hi=>hgo i hi) ?_ (by simp[h0]);rw[hend,List.take_length]
theorem sortc{l:List Int}(h:l.length≤4194304):((slices_Sort_int_int l).bind fun x=>(slices_Compact_int_int x).bind fun y=>some y)=some (dsort l):=by
 unfold slices_Sort_int_int slices_Compact_int_int;rw[if_pos (by omega),nn,if_pos (by simp;omega),nn,compact_msort]
def known(t1:Int) (f:GFact):Bool:=decide (f.Recorded≤t1)&&neB f.Valid
theorem dsort_len(l:List Int):(dsort l).length≤l.length:=(dsort_inv l).2.1
end Go.Proofs.Dev
namespace Go.Proofs.Dev
open Go Go.Tm
end Go.Proofs.Dev
namespace Go.Proofs.Dev
open Go Go.Tm
end Go.Proofs.Dev
namespace Go.Proofs.Dev
open Go Go.Tm
def upN(neg:Bool) (mode:Int) (q r d:Nat):Prop:=
 (mode=0∧neg=true∧0<r)∨(mode=1∧neg=false∧0<r)∨(mode=3∧0<r)∨(mode=4∧d≤r+r)∨(mode=5∧(d<r+r∨(d=r+r∧q % 2=1)))
instance (neg:Bool) (mode:Int) (q r d:Nat):Decidable (upN neg mode q r d):=by unfold upN;infer_instance
end Go.Proofs.Dev
namespace Go.Proofs.Dev
open Go Go.Tm
def upF(mode q r d:Int):Prop:=
 r≠0∧(mode=1∨(mode=2∧q<0)∨(mode=3∧0≤q)∨(mode=4∧(d-r<r∨(r=d-r∧0≤q)))∨(mode=5∧(d-r<r∨(r=d-r∧q % 2≠0))))
instance (mode q r d:Int):Decidable (upF mode q r d):=by unfold upF;infer_instance
end Go.Proofs.Dev
namespace Go.Proofs.Dev
open Go Go.Tm
end Go.Proofs.Dev
namespace Go.Proofs.Dev
open Go Go.Tm
end Go.Proofs.Dev
namespace Go.Proofs.Dev
open Go Go.Tm
def inside(r:GDateRange) (x:Int):Bool:=decide (r.From<x)&&decide (x<r.To)
def LawSz(l:GLaw):Prop:=∀t∈l.Tables,t.Rows.length≤1125899906842624
end Go.Proofs.Dev
namespace Go.Proofs.Dev
open Go Go.Tm
theorem loopP{σ1 σ2 β1 β2 ρ1 ρ2:Type}{s1:σ1→Option (Ex σ1 β1 ρ1)}{s2:σ2→Option (Ex σ2 β2 ρ2)}(I:σ1→σ2→Prop) (mu:σ1→Nat) (QB:β1→β2→Prop) (QR:ρ1→ρ2→Prop)
 (h:∀x y,I x y→(∃x' y',s1 x=some (.go x')∧s2 y=some (.go y')∧I x' y'∧mu x'<mu x)∨(∃b c,s1 x=some (.brk b)∧s2 y=some (.brk c)∧QB b c)∨∃b c,s1 x=some (.ret b)∧s2 y=some (.ret c)∧QR b c) :
 ∀(n:Nat) x y,mu x≤n→I x y→(∃b c,loopO s1 x=some (.inl b)∧loopO s2 y=some (.inl c)∧QB b c)∨∃b c,loopO s1 x=some (.inr b)∧loopO s2 y=some (.inr c)∧QR b c:=by
 intro n
 induction n with
 |zero=>
  intro x y hn hi;rcases h x y hi with⟨x',y',h1,h2,h3,h4⟩|⟨b,c,h1,h2,h3⟩|⟨b,c,h1,h2,h3⟩
  ·omega
  ·exact .inl ⟨b,c,loopO_brk h1,loopO_brk h2,h3⟩
  ·exact .inr ⟨b,c,loopO_ret h1,loopO_ret h2,h3⟩
 |succ n ih=>
  intro x y hn hi;rcases h x y hi with⟨x',y',h1,h2,h3,h4⟩|⟨b,c,h1,h2,h3⟩|⟨b,c,h1,h2,h3⟩
  ·rw[loopO_go h1,loopO_go h2];exact ih x' y' (by omega) h3
  ·exact .inl ⟨b,c,loopO_brk h1,loopO_brk h2,h3⟩
  ·exact .inr ⟨b,c,loopO_ret h1,loopO_ret h2,h3⟩
end Go.Proofs.Dev
namespace Go.Proofs.Dev
open Go Go.Tm
def bad3(f:GFact):Prop:=f.Id<0∨(f.Member < -1∨8≤f.Member)∨(f.Input < -1∨12≤f.Input)∨(f.Member = -1∧f.Input = -1)∨neB f.Valid=false∨(f.Recorded<0∨109572<f.Recorded)
instance (f:GFact):Decidable (bad3 f):=by unfold bad3;infer_instance
def bad8(f:GFact):Prop:=(f.Value.Kind<1∨6<f.Value.Kind)∨(f.Input = -1∧¬f.Value.Kind=1)
instance (f:GFact):Decidable (bad8 f):=by unfold bad8;infer_instance
def chkS(f:GFact):Int:=if bad3 f then 3 else if bad8 f then 8 else 0
theorem andO{a:Prop} [Decidable a] {b:Bool}{α:Type}{k:Bool→Option α}:(qn (α:=Bool) (if a then some b else some false) k)=k (decide a&&b):=by
 by_cases h:a<;>simp[h]
theorem orQ{a b:Prop} [Decidable a] [Decidable b] {α:Type}{k:Bool→Option α}:(qn (α:=Bool) (if¬a then some (decide b)else some true) k)=k (decide (a∨b)):=by
 by_cases h:a<;>simp[h]
theorem iteOr{α:Type}{a b:Prop} [Decidable a] [Decidable b] {x y:α}:(if a then x else if b then x else y)=if a∨b then x else y:=by
 by_cases h:a<;>simp[h]
theorem facts_checkFact_s(f:GFact):facts_checkFact f=some (chkS f):=by
 unfold facts_checkFact;simp only[orQ,andO,facts_nonempty_s,nn,decide_eq_true_eq,Bool.and_eq_true,beq_iff_eq,bne_iff_ne,ne_eq,iteOr];unfold chkS;by_cases h3:bad3 f
 ·rw[if_pos h3];unfold bad3 at h3;rw[if_pos h3]
 ·rw[if_neg h3];unfold bad3 at h3;rw[if_neg h3];by_cases h8:bad8 f
  ·rw[if_pos h8];unfold bad8 at h8;rw[if_pos h8]
  ·rw[if_neg h8];unfold bad8 at h8;rw[if_neg h8]
def errF(l:List GFact) (i:Nat):Option (Int×Int):=
 match l[i]? with
 |some f=>if¬chkS f=0 then some ((i:Int),chkS f)else if((l.take i).any fun y=>decide (y.Id=f.Id))=true then some ((i:Int),7)else none
 |none=>none
def factsV(l:List GFact):Int×Int:=if 128<(l.length:Int)then(0,4)else(ff (errF l) l.length).getD (0,0)
theorem go_s{l:List GFact}:∀(rest:List GFact) (i:Nat) (seen:List Int),l.drop i=rest→(∀x,seen.contains x=(l.take i).any fun y=>decide (y.Id=x))→facts_Validate_go (i:Int) seen rest=some ((ff (fun j=>errF l (i+j)) rest.length).getD (0,0))
 |[],i,seen,h,hs=>rfl
 |f::rest,i,seen,h,hs=>by
  have hi:i<l.length:=by
   rcases Nat.lt_or_ge i l.length with h1|h1
   ·exact h1
   ·rw[List.drop_eq_nil_of_le h1]at h;cases h
  have hf:l[i]=f∧l.drop (i+1)=rest:=by
   rw[List.drop_eq_getElem_cons hi]at h;injection h with h1 h2;exact⟨h1,h2⟩
  unfold facts_Validate_go;rw[facts_checkFact_s,nn];simp only[ff,List.length_cons,Nat.add_zero];have he:errF l i=if¬chkS f=0 then some ((i:Int),chkS f)else if((l.take i).any fun y=>decide (y.Id=f.Id))=true then some ((i:Int),7)else none:=by
   unfold errF;rw[pn hi,hf.1]
  rw[he];by_cases h0:chkS f=0
  case neg=>rw[if_pos h0,if_pos h0];rfl
  rw[if_neg (ko.2 h0),if_neg (ko.2 h0),hs f.Id];by_cases hd:((l.take i).any fun y=>decide (y.Id=f.Id))=true
  ·rw[if_pos hd,if_pos hd];rfl
  ·rw[if_neg hd,if_neg hd];dsimp only;rw[show(i:Int)+1=((i+1:Nat):Int)from rfl,go_s rest (i+1) (f.Id::seen) hf.2 (fun x=>by
    rw[Wo,pn hi,hf.1,List.contains_cons,hs x];simp only[Option.toList_some,List.any_append,List.any_cons,List.any_nil,Bool.or_false];rw[Bool.or_comm];congr 1;rw[Bool.eq_iff_iff];simp;exact eq_comm)]
   congr 2;congr 1;funext j;congr 1;omega
theorem facts_Validate_s(l:List GFact):facts_Validate l=some (factsV l):=by
 unfold facts_Validate factsV;split
 ·rfl
 ·have:=go_s (l:=l) l 0 [] (by simp) (fun x=>by simp);rw[show((0:Nat):Int)=0 from rfl]at this;rw[this];simp
theorem ref34_fault_s{l:List GFact}(hl:l.length≤1048576) {i:Nat}(hi:i<l.length):ref34_fault l (i:Int)=some (match errF l i with|some v=>v.2|none=>0):=by
 have hloop:loopO (ref34_fault_L1 l (i:Int) l[i]) 0=some (outR () (ff (fun j=>if(l[j]?.any fun y=>decide (y.Id=l[i].Id))=true then some 7 else none) i)):=
  loopF (fun j=>(j:Int)) _ i () (fun j hj _=>by
   unfold ref34_fault_L1;rw[if_pos (by omega),idxN (by omega),pn (by omega)];simp only[nn,Ro];rw[wsucc (by omega)];by_cases hc:(l[j]'(by omega)).Id=l[i].Id<;>simp[hc,goR]) (fun _=>by unfold ref34_fault_L1;simp)
 unfold ref34_fault errF;rw[idxN hi,nn,pn hi];dsimp only;rw[hloop];generalize hf:l[i]=f;rw[ref34_nonempty_s];have hdup:ff (fun j=>if(l[j]?.any fun y=>decide (y.Id=f.Id))=true then some (7:Int)else none) i=if((l.take i).any fun y=>decide (y.Id=f.Id))=true then some 7 else none:=by
  cases hff:ff (fun j=>if(l[j]?.any fun y=>decide (y.Id=f.Id))=true then some (7:Int)else none) i with
  |none=>
   have:((l.take i).any fun y=>decide (y.Id=f.Id))=false:=by
    rw[qq];intro y hy;obtain⟨j,hj,rfl⟩:=Co hy;rw[List.length_take]at hj;have:=ff_none.1 hff j (by omega);rw[pn (by omega)]at this;simp only[Ro]at this;split at this
    ·cases this
    ·rename_i h;simpa using h
   rw[this];rfl
  |some v=>
   obtain⟨j,hj,h2,-⟩:=ff_some.1 hff;split at h2
   ·rename_i h3;injection h2 with h2;rw[pn (by omega),Ro]at h3;have:((l.take i).any fun y=>decide (y.Id=f.Id))=true:=by
     rw[List.any_eq_true];exact⟨l[j]'(by omega),by rw[Dr];exact⟨j,by omega,rfl⟩,h3⟩
    rw[this,←h2];rfl
   ·cases h2
 have hX:((some (neB f.Valid)).bind fun x9=>if x9=true then if¬f.Recorded<0 then some (decide (109572<f.Recorded))else some true else some true)=some (decide (neB f.Valid=false∨(f.Recorded<0∨109572<f.Recorded))):=by
  cases neB f.Valid<;>by_cases h8:f.Recorded<0<;>simp[h8]
 have hY:(if f.Member=(-1)then if¬f.Input=(-1)then(some (neB f.Valid)).bind fun x9=>if x9=true then if¬f.Recorded<0 then some (decide (109572<f.Recorded))else some true else some true else some true
  else(some (neB f.Valid)).bind fun x12=>if x12=true then if¬f.Recorded<0 then some (decide (109572<f.Recorded))else some true else some true)=some (decide ((f.Member = -1∧f.Input = -1)∨neB f.Valid=false∨(f.Recorded<0∨109572<f.Recorded))):=by
  rw[hX];by_cases h6:f.Member = -1<;>by_cases h7:f.Input = -1<;>simp[h6,h7]
 have nest:∀{a b c d e z:Prop} [Decidable a] [Decidable b] [Decidable c] [Decidable d] [Decidable e] [Decidable z],(if¬a then if¬b then if¬c then if¬d then if¬e then some (decide z)else some true else some true else some true else some true else some true)=some (decide (a∨b∨c∨d∨e∨z)):=by
  intro a b c d e z _ _ _ _ _ _;by_cases a<;>by_cases b<;>by_cases c<;>by_cases d<;>by_cases e<;>simp[*]
 rw[hY,nest,nn];have hb3:(f.Id<0∨f.Member < -1∨7<f.Member∨f.Input < -1∨11<f.Input∨(f.Member = -1∧f.Input = -1)∨neB f.Valid=false∨(f.Recorded<0∨109572<f.Recorded))↔bad3 f:=by
  unfold bad3;have e7:(7<f.Member)↔8≤f.Member:=by omega
  have e11:(11<f.Input)↔12≤f.Input:=by omega
  rw[e7,e11];simp only[or_assoc]
 have hcond2:(if¬f.Value.Kind<1 then if¬6<f.Value.Kind then if f.Input=(-1)then some (f.Value.Kind !=1)else some false else some true else some true)=some (decide (bad8 f)):=by
  unfold bad8;by_cases h1:f.Value.Kind<1
  ·simp[h1]
  by_cases h2:6<f.Value.Kind
  ·simp[h1,h2]
  by_cases h3:f.Input = -1<;>by_cases h4:f.Value.Kind=1<;>simp[h1,h2,h3,h4]
 rw[hcond2,nn,nn,hdup];simp only[decide_eq_true_eq,hb3];unfold chkS;by_cases h3:bad3 f
 ·simp[h3]
 by_cases h8:bad8 f
 ·simp[h3,h8]
 by_cases hd:((l.take i).any fun y=>decide (y.Id=f.Id))=true<;>simp[h3,h8,hd,outR]
theorem errF_ne{l:List GFact}{i:Nat}{v:Int×Int}(h:errF l i=some v):v.1=(i:Int)∧v.2≠0:=by
 unfold errF at h;split at h
 ·split at h
  ·rename_i hc;injection h with h;subst h;exact⟨rfl,hc⟩
  ·split at h
   ·injection h with h;subst h;exact⟨rfl,show(7:Int)≠0 by decide⟩
   ·cases h
 ·cases h
theorem ref34_Validate_s{l:List GFact}(hl:l.length≤1048576):ref34_Validate l=some (factsV l):=by
 unfold ref34_Validate factsV;by_cases h128:128<(l.length:Int)
 ·rw[if_pos h128,if_pos h128]
 rw[if_neg h128,if_neg h128];have h1:loopO (ref34_Validate_L1 l) 0=some (outR () (ff (errF l) l.length)):=
  loopF (fun i=>(i:Int)) _ l.length () (fun i hi _=>by
   unfold ref34_Validate_L1;rw[if_pos (by omega),ref34_fault_s hl hi,nn,wsucc (by omega)]
   cases he:errF l i with
   |none=>simp[goR]
   |some v=>
    obtain⟨e1,e2⟩:=errF_ne he;dsimp only;rw[if_pos e2];obtain⟨v1,v2⟩:=v;dsimp only at e1;rw[e1];rfl) (fun _=>by unfold ref34_Validate_L1;simp)
 rw[h1];cases ff (errF l) l.length<;>rfl
structure FactsOk (l:List GFact):Prop where
 len:l.length≤128
 c:∀f∈l,chkS f=0
 id:∀(i j:Nat) (hi:i<l.length) (hj:j<l.length),i<j→l[i].Id≠l[j].Id
theorem factsOk_of{l:List GFact}(h:(factsV l).2=0):FactsOk l:=by
 unfold factsV at h;split at h
 ·simp at h
 have hn:∀i,i<l.length→errF l i=none:=by
  refine ff_none.1 ?_
  cases hf:ff (errF l) l.length with
  |none=>rfl
  |some v=>
   obtain⟨k,_,h2,_⟩:=ff_some.1 hf;rw[hf]at h;exact absurd h (errF_ne h2).2
 have hg:∀i (hi:i<l.length),chkS l[i]=0∧((l.take i).any fun y=>decide (y.Id=l[i].Id))=false:=by
  intro i hi;have:=hn i hi;unfold errF at this;rw[pn hi]at this;dsimp only at this;split at this
  ·cases this
  ·rename_i h0;split at this
   ·cases this
   ·rename_i h1;exact⟨Decidable.not_not.1 h0,by simpa using h1⟩
 refine⟨by omega,fun f hf=>?_,fun i j hi hj hij=>?_⟩
 ·obtain⟨i,hi,rfl⟩:=Co hf;exact(hg i hi).1
 ·have:=(hg j hj).2;rw[qq]at this;have:=this l[i] (by rw[Dr];exact⟨i,by omega,rfl⟩);simpa using this
def below(g f:GFact):Prop:=g.Recorded<f.Recorded∨(g.Recorded=f.Recorded∧g.Id≤f.Id)
instance (g f:GFact):Decidable (below g f):=by unfold below;infer_instance
end Go.Proofs.Dev
namespace Go.Proofs.Dev
open Go Go.Tm
end Go.Proofs.Dev
namespace Go.Proofs.Dev
open Go Go.Tm
def Plaus(v:GValue):Prop:=
 (v.Kind=1∧v.Enum=0∧0≤v.N∧v.N≤1)∨(v.Kind=2∧v.Enum=0∧-1000000000000≤v.N∧v.N≤1000000000000)∨(v.Kind=3∧v.Enum=0∧-1000000000000000≤v.N∧v.N≤1000000000000000)∨
 (v.Kind=4∧v.Enum=0∧-1000000000≤v.N∧v.N≤1000000000)∨(v.Kind=5∧v.Enum=0∧0≤v.N∧v.N≤109572)∨(v.Kind=6∧0≤v.Enum∧v.Enum<8∧0≤v.N∧v.N<16)
instance (v:GValue):Decidable (Plaus v):=by unfold Plaus;infer_instance
def plB(v:GValue):Bool:=decide (Plaus v)
end Go.Proofs.Dev
namespace Go.Proofs.Dev
open Go Go.Tm
end Go.Proofs.Dev
namespace Go.Proofs.Dev
open Go Go.Tm
def smB(a b:GValue):Prop:=a.Kind=b.Kind∧a.Enum=b.Enum
instance (a b:GValue):Decidable (smB a b):=by unfold smB;infer_instance
end Go.Proofs.Dev
