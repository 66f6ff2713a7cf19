/-
  The functions as plain partial functions, and plain lemmas about them: no condition.
-/
import Derived.Test.YtfanhhhgcabpnaaGreatDoorPA
set_option linter.all false
namespace Go.Tm
variable {α β ρ σ:Type}
theorem wid {n:Int}(h1:-9223372036854775808≤n) (h2:n<9223372036854775808):wrapF .i64 n=n:=by
 unfold wrapF wrapS;simp only [cond_eq_ite,decide_eq_true_eq];split<;>omega
theorem wsucc {i:Nat}(h:i<4611686018427387904):wrapF .i64 ((i:Int)+1)=((i+1:Nat):Int):=by
 rw [wid (by omega) (by omega)];rfl
theorem idxN {l:List α}{i:Nat}(h:i<l.length):idx l (i:Int)=some l[i]:=by
 simp [idx,h]
theorem loopG {step:σ→Option (Ex σ β ρ)}{x0:σ}(S:Nat→σ) (n:Nat) (b:β) (hgo:∀i,i<n→step (S i)=some (.go (S (i+1)))) (hend:step (S n)=some (.brk b)) (h0:x0=S 0:=by rfl):loopO step x0=some (.inl b):=by
 have key:∀k i,i+k=n→loopO step (S i)=some (.inl b):=by
  intro k
  induction k with
  |zero=>intro i hi;rw [Nat.add_zero]at hi;subst hi;exact loopO_brk hend
  |succ k ih=>intro i hi;rw [loopO_go (hgo i (by omega))];exact ih (i+1) (by omega)
 rw [h0];exact key n 0 (by omega)
end Go.Tm
set_option maxRecDepth 10000
set_option maxHeartbeats 1000000
namespace Go.Proofs.Dev
open Go Go.Tm
def latest (l:List GFact):Nat→Int
 |0=>0
 |i+1=>match l[i]? with|some f=>max (latest l i) f.Recorded|none=>latest l i
theorem account_New_s {h:GHousehold}(hl:h.Facts.length≤1048576):account_New h=some ⟨h,[],[],latest h.Facts h.Facts.length,-1⟩:=by
 unfold account_New slices_Clone_api_Fact_api_Fact;rw [if_pos (by omega),Option.bind_some];have e:loopO (account_New_L1 h.Facts) (0,0)=some (.inl (latest h.Facts h.Facts.length)):=loopG (step:=account_New_L1 h.Facts) (fun i=>(latest h.Facts i,(i:Int))) h.Facts.length (latest h.Facts h.Facts.length) (fun i hi=>by
  unfold account_New_L1;dsimp only;rw [if_pos (by omega),idxN hi,Option.bind_some,wsucc (by omega)];simp only [latest,List.getElem?_eq_getElem hi]) (by unfold account_New_L1;simp) rfl
 rw [e];rfl
theorem ref43_New_s {h:GHousehold}(hl:h.Facts.length≤1048576):ref43_New h=some ⟨h,[],[],latest h.Facts h.Facts.length,-1⟩:=by
 unfold ref43_New;have e:loopO (ref43_New_L1 h) (0,0)=some (.inl (latest h.Facts h.Facts.length)):=loopG (step:=ref43_New_L1 h) (fun i=>(latest h.Facts i,(i:Int))) h.Facts.length (latest h.Facts h.Facts.length) (fun i hi=>by
  unfold ref43_New_L1;dsimp only;rw [if_pos (by omega),idxN hi,Option.bind_some,wsucc (by omega)];simp only [latest,List.getElem?_eq_getElem hi];by_cases h1:latest h.Facts i<h.Facts[i].Recorded
  ·rw [if_pos h1,Option.bind_some,Int.max_eq_right (by omega)]
  ·rw [if_neg h1,Option.bind_some,Int.max_eq_left (by omega)]) (by unfold ref43_New_L1;simp) rfl
 rw [e];rfl
theorem same_Facts_refl {l:List GFact}(hl:l.length≤1048576):same_Facts l l=some true:=by
 unfold same_Facts;rw [if_neg (by simp)];have e:loopO (same_Facts_L1 l l) 0=some (.inl ()):=loopG (step:=same_Facts_L1 l l) (fun i=>(i:Int)) l.length () (fun i hi=>by
  unfold same_Facts_L1;simp only [show (i:Int)<(l.length:Int) by omega,if_true,decide_true,Option.bind_some,idxN hi];simp [wsucc (show i<4611686018427387904 by omega)]) (by unfold same_Facts_L1;simp) rfl
 rw [e];rfl
theorem AccountNew_plain (haw:law43_awake=some true) (h:GHousehold):law43_AccountNew h=some true:=by
 unfold law43_AccountNew same_SmallHousehold;rw [haw,Option.bind_some];by_cases hs:(h.Facts.length:Int)≤40
 ·have hl:h.Facts.length≤1048576:=by omega
  have hp:same_Postings [] []=some true:=by
   unfold same_Postings;rw [if_neg (by simp),show loopO (same_Postings_L1 [] []) 0=some (.inl ())from loopO_brk (by unfold same_Postings_L1;simp)];rfl
  have ha:same_Appeals [] []=some true:=by
   unfold same_Appeals;rw [if_neg (by simp),show loopO (same_Appeals_L1 [] []) 0=some (.inl ())from loopO_brk (by unfold same_Appeals_L1;simp)];rfl
  have hh:∀d,same_Account ⟨h,[],[],d,-1⟩ ⟨h,[],[],d,-1⟩=some true:=by
   intro d;unfold same_Account same_Household;simp [hp,ha,same_Facts_refl hl]
  simp [hs,account_New_s hl,ref43_New_s hl,hh]
 ·simp [hs]
end Go.Proofs.Dev
