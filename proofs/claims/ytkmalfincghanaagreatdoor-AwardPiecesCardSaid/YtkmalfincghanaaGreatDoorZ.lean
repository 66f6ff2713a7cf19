/-
  The contract of the function of the statement: for all arguments of its types.
-/
import Derived.Test.YtkmalfincghanaaGreatDoorPB
import Derived.Test.YtkmalfincghanaaGreatDoorQ0
set_option linter.all false
set_option maxHeartbeats 1000000
set_option maxRecDepth 10000
set_option linter.unusedSimpArgs false
set_option linter.unusedVariables false
set_option maxHeartbeats 1000000
set_option maxRecDepth 10000
namespace Go.Proofs.Dev
open Go Go.Tm
theorem look_i {ds:List D}(h:Look (.int .i64) ds):∃n:Int,ds=[.v (.int .i64 n)]∧-9223372036854775808≤n∧n≤9223372036854775807:=by
 simp only [Look]at h;obtain⟨n,rfl,hw⟩:=h;refine⟨n,rfl,?_⟩;simp [Lit.wf]at hw;have h1:IntKind.i64.min = -9223372036854775808:=by decide
 have h2:IntKind.i64.max=9223372036854775807:=by decide
 omega
theorem look_s {ds:List D}(h:Look .str ds):∃n:ByteArray,ds=[.v (.string n)]:=by
 simp only [Look]at h;obtain⟨n,rfl,hw⟩:=h;exact⟨n,rfl⟩
theorem look_ll {α:Type}{e:α→D}{p:α→Prop}{S:Nat}{A:Bool}{s:Sh}{ds:List D}(he:∀cs,Look s cs→∃x,wrapD A cs=e x∧p x) (h:Look (.sl S A s) ds):∃l:List α,ds=[.sl S (l.map e)]∧l.length≤140737488355328∧∀x∈l,p x:=by
 simp only [Look]at h;obtain⟨l,rfl,hn,hl⟩:=h;have:∀l:List D,(∀d∈l,∃cs,Look s cs∧d=wrapD A cs)→∃r:List α,l=r.map e∧∀x∈r,p x:=by
  intro l
  induction l with
  |nil=>exact fun _=>⟨[],rfl,fun x hx=>by cases hx⟩
  |cons d l ih=>
   intro h;obtain⟨r,rfl,hr⟩:=ih fun d hd=>h d (by simp [hd]);obtain⟨cs,h1,rfl⟩:=h d (by simp);obtain⟨x,h2,h3⟩:=he cs h1;refine⟨x::r,by rw [h2];rfl,fun y hy=>?_⟩;rcases List.mem_cons.1 hy with rfl|hy
   ·exact h3
   ·exact hr y hy
 obtain⟨r,rfl,hr⟩:=this l hl;exact⟨r,rfl,by simpa using hn,hr⟩
theorem look_l {α:Type}{e:α→D}{p:α→Prop}{S:Nat}{A:Bool}{s:Sh}{ds:List D}(he:∀cs,Look s cs→∃x,wrapD A cs=e x∧p x) (h:Look (.sl S A s) ds):∃l:List α,ds=[.sl S (l.map e)]∧∀x∈l,p x:=by
 obtain⟨r,h1,-,h2⟩:=look_ll he h;exact⟨r,h1,h2⟩
theorem look_nil {ds:List D}(h:LookL [] ds):ds=[]:=by simpa only [LookL] using h
theorem look_cons {s:Sh}{l:List Sh}{ds:List D}(h:LookL (s::l) ds):∃a b,ds=a++b∧Look s a∧LookL l b:=by simpa only [LookL] using h
theorem look_cat {l:List Sh}{ds:List D}(h:Look (.cat l) ds):LookL l ds:=by simpa only [Look] using h
theorem look_2 {ds:List D}(h:Look (.cat [.int .i64,.int .i64]) ds):∃n m:Int,ds=[.v (.int .i64 n),.v (.int .i64 m)]∧(-9223372036854775808≤n∧n≤9223372036854775807)∧(-9223372036854775808≤m∧m≤9223372036854775807):=by
 obtain⟨a,b,rfl,h1,h⟩:=look_cons (look_cat h);obtain⟨c,d,rfl,h2,h⟩:=look_cons h;obtain rfl:=look_nil h;obtain⟨n,rfl,hn⟩:=look_i h1;obtain⟨m,rfl,hm⟩:=look_i h2;exact⟨n,m,rfl,hn,hm⟩
abbrev shF:Sh:=.cat [.str,.cat [.int .i64,.int .i64]]
abbrev shN:Sh:=.cat [.int .i64,.int .i64]
abbrev shR:Sh:=.cat [.str,.int .i64,.int .i64,.int .i64,.cat [.int .i64,.int .i64],.sl 2 true shN,.sl 2 true shN,.str]
abbrev shS:Sh:=.cat [.str,.int .i64,.sl 3 true shF,.sl 3 true shF,.sl 9 true shR]
abbrev shT:Sh:=.cat [.str,.cat [.int .i64,.int .i64],.cat [.int .i64,.int .i64],.sl 5 true (.cat [.cat [.int .i64,.int .i64],.int .i64,.int .i64,.int .i64])]
abbrev shL:Sh:=.cat [.sl 2 true (.cat [.str,.sl 1 false .str]),.sl 6 true shT,.sl 5 true shS]
theorem dec_N {cs:List D}(h:Look shN cs):∃x:GNode,wrapD true cs=e_GNode x∧NodeOk x:=by
 obtain⟨n,m,rfl,hn,hm⟩:=look_2 h;exact⟨⟨n,m⟩,rfl,by unfold NodeOk;dsimp only;omega⟩
theorem dec_F {cs:List D}(h:Look shF cs):∃x:GField,wrapD true cs=e_GField x∧True:=by
 obtain⟨a,b,rfl,h1,h⟩:=look_cons (look_cat h);obtain⟨c,d,rfl,h2,h⟩:=look_cons h;obtain rfl:=look_nil h;obtain⟨s,rfl⟩:=look_s h1;obtain⟨n,m,rfl,hn,hm⟩:=look_2 h2;exact⟨⟨s,⟨n,m⟩⟩,rfl,trivial⟩
theorem dec_R {cs:List D}(h:Look shR cs):∃x:GRule,wrapD true cs=e_GRule x∧(∀n∈x.Guard,NodeOk n)∧∀n∈x.Value,NodeOk n:=by
 obtain⟨_,_,rfl,h1,h⟩:=look_cons (look_cat h);obtain⟨_,_,rfl,h2,h⟩:=look_cons h;obtain⟨_,_,rfl,h3,h⟩:=look_cons h;obtain⟨_,_,rfl,h4,h⟩:=look_cons h;obtain⟨_,_,rfl,h5,h⟩:=look_cons h;obtain⟨_,_,rfl,h6,h⟩:=look_cons h;obtain⟨_,_,rfl,h7,h⟩:=look_cons h;obtain⟨_,_,rfl,h8,h⟩:=look_cons h;obtain rfl:=look_nil h;obtain⟨s,rfl⟩:=look_s h1;obtain⟨x2,rfl,-⟩:=look_i h2;obtain⟨x3,rfl,-⟩:=look_i h3;obtain⟨x4,rfl,-⟩:=look_i h4;obtain⟨n,m,rfl,-,-⟩:=look_2 h5;obtain⟨g,rfl,hg⟩:=look_l (fun _=>dec_N) h6;obtain⟨v,rfl,hv⟩:=look_l (fun _=>dec_N) h7;obtain⟨t,rfl⟩:=look_s h8;exact⟨⟨s,x2,x3,x4,⟨n,m⟩,g,v,t⟩,rfl,hg,hv⟩
theorem dec_S {cs:List D}(h:Look shS cs):∃x:GScope,wrapD true cs=e_GScope x∧∀r∈x.Rules,(∀n∈r.Guard,NodeOk n)∧∀n∈r.Value,NodeOk n:=by
 obtain⟨_,_,rfl,h1,h⟩:=look_cons (look_cat h);obtain⟨_,_,rfl,h2,h⟩:=look_cons h;obtain⟨_,_,rfl,h3,h⟩:=look_cons h;obtain⟨_,_,rfl,h4,h⟩:=look_cons h;obtain⟨_,_,rfl,h5,h⟩:=look_cons h;obtain rfl:=look_nil h;obtain⟨s,rfl⟩:=look_s h1;obtain⟨x2,rfl,-⟩:=look_i h2;obtain⟨a,rfl,-⟩:=look_l (fun _=>dec_F) h3;obtain⟨b,rfl,-⟩:=look_l (fun _=>dec_F) h4;obtain⟨r,rfl,hr⟩:=look_l (fun _=>dec_R) h5;exact⟨⟨s,x2,a,b,r⟩,rfl,hr⟩
theorem dec_T {cs:List D}(h:Look shT cs):∃x:GTable,wrapD true cs=e_GTable x∧x.Rows.length≤1125899906842624:=by
 obtain⟨_,_,rfl,h1,h⟩:=look_cons (look_cat h);obtain⟨_,_,rfl,h2,h⟩:=look_cons h;obtain⟨_,_,rfl,h3,h⟩:=look_cons h;obtain⟨_,_,rfl,h4,h⟩:=look_cons h;obtain rfl:=look_nil h;obtain⟨s,rfl⟩:=look_s h1;obtain⟨a,b,rfl,-,-⟩:=look_2 h2;obtain⟨c,d,rfl,-,-⟩:=look_2 h3;obtain⟨r,rfl,hr,-⟩:=look_ll (e:=e_GRow) (p:=fun _=>True) (fun cs h=>by
  obtain⟨_,_,rfl,h1,h⟩:=look_cons (look_cat h);obtain⟨_,_,rfl,h2,h⟩:=look_cons h;obtain⟨_,_,rfl,h3,h⟩:=look_cons h;obtain⟨_,_,rfl,h4,h⟩:=look_cons h;obtain rfl:=look_nil h;obtain⟨a,b,rfl,-,-⟩:=look_2 h1;obtain⟨x2,rfl,-⟩:=look_i h2;obtain⟨x3,rfl,-⟩:=look_i h3;obtain⟨x4,rfl,-⟩:=look_i h4;exact⟨⟨⟨a,b⟩,x2,x3,x4⟩,rfl,trivial⟩) h4
 exact⟨⟨s,⟨a,b⟩,⟨c,d⟩,r⟩,rfl,by dsimp only;omega⟩
theorem dec_LZ {d:D}(h:LookV true shL d):∃x:GLaw,d=e_GLaw x∧LawTy x∧∀t∈x.Tables,t.Rows.length≤1125899906842624:=by
 obtain⟨ds,h,rfl⟩:=h;obtain⟨_,_,rfl,h1,h⟩:=look_cons (look_cat h);obtain⟨_,_,rfl,h2,h⟩:=look_cons h;obtain⟨_,_,rfl,h3,h⟩:=look_cons h;obtain rfl:=look_nil h;obtain⟨en,rfl,-⟩:=look_l (e:=e_GEnum) (p:=fun _=>True) (fun cs h=>by
  obtain⟨_,_,rfl,h1,h⟩:=look_cons (look_cat h);obtain⟨_,_,rfl,h2,h⟩:=look_cons h;obtain rfl:=look_nil h;obtain⟨s,rfl⟩:=look_s h1;obtain⟨m,rfl,-⟩:=look_l (e:=e_str) (p:=fun _=>True) (fun cs h=>by obtain⟨s,rfl⟩:=look_s h;exact⟨s,rfl,trivial⟩) h2;exact⟨⟨s,m⟩,rfl,trivial⟩) h1
 obtain⟨tb,rfl,ht⟩:=look_l (fun _=>dec_T) h2;obtain⟨sc,rfl,hs⟩:=look_l (fun _=>dec_S) h3;exact⟨⟨en,tb,sc⟩,rfl,hs,ht⟩
theorem dec_I {d:D}(h:LookV false (.int .i64) d):∃n:Int,d=e_i64 n:=by
 obtain⟨ds,h,rfl⟩:=h;obtain⟨n,rfl,-⟩:=look_i h;exact⟨n,rfl⟩
end Go.Proofs.Dev
set_option linter.unusedSimpArgs false
set_option linter.unusedVariables false
set_option maxHeartbeats 1000000
set_option maxRecDepth 10000
namespace Go.Proofs.Dev
open Go Go.Tm
abbrev shX:Sh:=.cat [.int .i64,.int .i64,.int .i64,.cat [.int .i64,.int .i64,.int .i64],.cat [.int .i64,.int .i64],.int .i64]
abbrev shH:Sh:=.cat [.int .i64,.int .i64,.int .i64,.sl 9 true shX]
theorem dec_X {cs:List D}(h:Look shX cs):∃x:GFact,wrapD true cs=e_GFact x∧True:=by
 obtain⟨_,_,rfl,h1,h⟩:=look_cons (look_cat h);obtain⟨_,_,rfl,h2,h⟩:=look_cons h;obtain⟨_,_,rfl,h3,h⟩:=look_cons h;obtain⟨_,_,rfl,h4,h⟩:=look_cons h;obtain⟨_,_,rfl,h5,h⟩:=look_cons h;obtain⟨_,_,rfl,h6,h⟩:=look_cons h;obtain rfl:=look_nil h;obtain⟨x1,rfl,-⟩:=look_i h1;obtain⟨x2,rfl,-⟩:=look_i h2;obtain⟨x3,rfl,-⟩:=look_i h3;obtain⟨_,_,rfl,g1,h⟩:=look_cons (look_cat h4);obtain⟨_,_,rfl,g2,h⟩:=look_cons h;obtain⟨_,_,rfl,g3,h⟩:=look_cons h;obtain rfl:=look_nil h;obtain⟨y1,rfl,-⟩:=look_i g1;obtain⟨y2,rfl,-⟩:=look_i g2;obtain⟨y3,rfl,-⟩:=look_i g3;obtain⟨a,b,rfl,-,-⟩:=look_2 h5;obtain⟨x6,rfl,-⟩:=look_i h6;exact⟨⟨x1,x2,x3,⟨y1,y2,y3⟩,⟨a,b⟩,x6⟩,rfl,trivial⟩
theorem dec_Hs {cs:List D}(h:Look shH cs):∃x:GHousehold,wrapD true cs=e_GHousehold x∧True:=by
 obtain⟨_,_,rfl,h1,h⟩:=look_cons (look_cat h);obtain⟨_,_,rfl,h2,h⟩:=look_cons h;obtain⟨_,_,rfl,h3,h⟩:=look_cons h;obtain⟨_,_,rfl,h4,h⟩:=look_cons h;obtain rfl:=look_nil h;obtain⟨x1,rfl,-⟩:=look_i h1;obtain⟨x2,rfl,-⟩:=look_i h2;obtain⟨x3,rfl,-⟩:=look_i h3;obtain⟨l,rfl,-⟩:=look_l (fun _=>dec_X) h4;exact⟨⟨x1,x2,x3,l⟩,rfl,trivial⟩
theorem dec_H {d:D}(h:LookV true shH d):∃x:GHousehold,d=e_GHousehold x:=by
 obtain⟨ds,h,rfl⟩:=h;obtain⟨x,h,-⟩:=dec_Hs h;exact⟨x,h⟩
end Go.Proofs.Dev
set_option linter.unusedVariables false
namespace Go.Proofs.Dev
open Go Go.Tm
theorem law_call (a b c d:D) (h1:LookV true shL a) (h2:LookV true shH b) (h3:LookV false (.int .i64) c) (h4:LookV false (.int .i64) d):CallT Tryz.prog 5 [a,b,c,d] [] fun x _=>x=.v (.bool true):=by
 obtain⟨l,rfl,hl,hz⟩:=dec_LZ h1;obtain⟨x,rfl⟩:=dec_H h2;obtain⟨y,rfl⟩:=dec_I h3;obtain⟨z,rfl⟩:=dec_I h4;exact(law36_AwardPieces_ok (AwardPieces_plain rfl hz x y z) []).mono fun _ _ h=>h.1
end Go.Proofs.Dev
