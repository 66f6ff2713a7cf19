/-
  The contract of the function of the statement: for all arguments of its types.
-/
import Derived.Test.YtfanhhhgcabpnaaGreatDoorPB
import Derived.Test.YtfanhhhgcabpnaaGreatDoorQ0
set_option linter.all false
set_option maxHeartbeats 1000000
set_option maxRecDepth 10000
set_option linter.unusedSimpArgs false
set_option linter.unusedVariables false
set_option maxHeartbeats 1000000
set_option maxRecDepth 10000
namespace Go.Proofs.Dev
open Go Go.Tm
theorem look_i {ds:List D}(h:Look (.int .i64) ds):∃n:Int,ds=[.v (.int .i64 n)]∧-9223372036854775808≤n∧n≤9223372036854775807:=by
 simp only [Look]at h;obtain⟨n,rfl,hw⟩:=h;refine⟨n,rfl,?_⟩;simp [Lit.wf]at hw;have h1:IntKind.i64.min = -9223372036854775808:=by decide
 have h2:IntKind.i64.max=9223372036854775807:=by decide
 omega
theorem look_l {α:Type}{e:α→D}{p:α→Prop}{S:Nat}{A:Bool}{s:Sh}{ds:List D}(he:∀cs,Look s cs→∃x,wrapD A cs=e x∧p x) (h:Look (.sl S A s) ds):∃l:List α,ds=[.sl S (l.map e)]∧∀x∈l,p x:=by
 simp only [Look]at h;obtain⟨l,rfl,-,hl⟩:=h;have:∀l:List D,(∀d∈l,∃cs,Look s cs∧d=wrapD A cs)→∃r:List α,l=r.map e∧∀x∈r,p x:=by
  intro l
  induction l with
  |nil=>exact fun _=>⟨[],rfl,fun x hx=>by cases hx⟩
  |cons d l ih=>
   intro h;obtain⟨r,rfl,hr⟩:=ih fun d hd=>h d (by simp [hd]);obtain⟨cs,h1,rfl⟩:=h d (by simp);obtain⟨x,h2,h3⟩:=he cs h1;refine⟨x::r,by rw [h2];rfl,fun y hy=>?_⟩;rcases List.mem_cons.1 hy with rfl|hy
   ·exact h3
   ·exact hr y hy
 obtain⟨r,rfl,hr⟩:=this l hl;exact⟨r,rfl,hr⟩
theorem look_nil {ds:List D}(h:LookL [] ds):ds=[]:=by simpa only [LookL] using h
theorem look_cons {s:Sh}{l:List Sh}{ds:List D}(h:LookL (s::l) ds):∃a b,ds=a++b∧Look s a∧LookL l b:=by simpa only [LookL] using h
theorem look_cat {l:List Sh}{ds:List D}(h:Look (.cat l) ds):LookL l ds:=by simpa only [Look] using h
theorem look_2 {ds:List D}(h:Look (.cat [.int .i64,.int .i64]) ds):∃n m:Int,ds=[.v (.int .i64 n),.v (.int .i64 m)]∧(-9223372036854775808≤n∧n≤9223372036854775807)∧(-9223372036854775808≤m∧m≤9223372036854775807):=by
 obtain⟨a,b,rfl,h1,h⟩:=look_cons (look_cat h);obtain⟨c,d,rfl,h2,h⟩:=look_cons h;obtain rfl:=look_nil h;obtain⟨n,rfl,hn⟩:=look_i h1;obtain⟨m,rfl,hm⟩:=look_i h2;exact⟨n,m,rfl,hn,hm⟩
end Go.Proofs.Dev
set_option linter.unusedSimpArgs false
set_option linter.unusedVariables false
set_option maxHeartbeats 1000000
set_option maxRecDepth 10000
namespace Go.Proofs.Dev
open Go Go.Tm
abbrev shX:Sh:=.cat [.int .i64,.int .i64,.int .i64,.cat [.int .i64,.int .i64,.int .i64],.cat [.int .i64,.int .i64],.int .i64]
abbrev shH:Sh:=.cat [.int .i64,.int .i64,.int .i64,.sl 9 true shX]
theorem dec_X {cs:List D}(h:Look shX cs):∃x:GFact,wrapD true cs=e_GFact x∧True:=by
 obtain⟨_,_,rfl,h1,h⟩:=look_cons (look_cat h);obtain⟨_,_,rfl,h2,h⟩:=look_cons h;obtain⟨_,_,rfl,h3,h⟩:=look_cons h;obtain⟨_,_,rfl,h4,h⟩:=look_cons h;obtain⟨_,_,rfl,h5,h⟩:=look_cons h;obtain⟨_,_,rfl,h6,h⟩:=look_cons h;obtain rfl:=look_nil h;obtain⟨x1,rfl,-⟩:=look_i h1;obtain⟨x2,rfl,-⟩:=look_i h2;obtain⟨x3,rfl,-⟩:=look_i h3;obtain⟨_,_,rfl,g1,h⟩:=look_cons (look_cat h4);obtain⟨_,_,rfl,g2,h⟩:=look_cons h;obtain⟨_,_,rfl,g3,h⟩:=look_cons h;obtain rfl:=look_nil h;obtain⟨y1,rfl,-⟩:=look_i g1;obtain⟨y2,rfl,-⟩:=look_i g2;obtain⟨y3,rfl,-⟩:=look_i g3;obtain⟨a,b,rfl,-,-⟩:=look_2 h5;obtain⟨x6,rfl,-⟩:=look_i h6;exact⟨⟨x1,x2,x3,⟨y1,y2,y3⟩,⟨a,b⟩,x6⟩,rfl,trivial⟩
theorem dec_Hs {cs:List D}(h:Look shH cs):∃x:GHousehold,wrapD true cs=e_GHousehold x∧True:=by
 obtain⟨_,_,rfl,h1,h⟩:=look_cons (look_cat h);obtain⟨_,_,rfl,h2,h⟩:=look_cons h;obtain⟨_,_,rfl,h3,h⟩:=look_cons h;obtain⟨_,_,rfl,h4,h⟩:=look_cons h;obtain rfl:=look_nil h;obtain⟨x1,rfl,-⟩:=look_i h1;obtain⟨x2,rfl,-⟩:=look_i h2;obtain⟨x3,rfl,-⟩:=look_i h3;obtain⟨l,rfl,-⟩:=look_l (fun _=>dec_X) h4;exact⟨⟨x1,x2,x3,l⟩,rfl,trivial⟩
theorem dec_H {d:D}(h:LookV true shH d):∃x:GHousehold,d=e_GHousehold x:=by
 obtain⟨ds,h,rfl⟩:=h;obtain⟨x,h,-⟩:=dec_Hs h;exact⟨x,h⟩
end Go.Proofs.Dev
set_option linter.unusedVariables false
namespace Go.Proofs.Dev
open Go Go.Tm
theorem law_call (a:D) (h1:LookV true shH a):CallT Tryz.prog 5 [a] [] fun x _=>x=.v (.bool true):=by
 obtain⟨l,rfl⟩:=dec_H h1;exact(law43_AccountNew_ok (AccountNew_plain rfl l) []).mono fun _ _ h=>h.1
end Go.Proofs.Dev
