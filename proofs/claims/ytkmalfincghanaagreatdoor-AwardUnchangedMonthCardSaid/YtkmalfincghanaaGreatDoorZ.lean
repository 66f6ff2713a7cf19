/-
  The contract of the function of the statement: for all arguments of its types.
-/
import Derived.Test.YtkmalfincghanaaGreatDoorPD
import Derived.Test.YtkmalfincghanaaGreatDoorQ12
set_option linter.all false
set_option maxHeartbeats 1000000
set_option maxRecDepth 10000
set_option linter.unusedSimpArgs false
set_option linter.unusedVariables false
set_option maxHeartbeats 1000000
set_option maxRecDepth 10000
namespace Go.Proofs.Dev
open Go Go.Tm
theorem Qh{ds:List D}(h:Cj (.int .i64) ds):∃n:Int,ds=[.v (.int .i64 n)]∧-9223372036854775808≤n∧n≤9223372036854775807:=by
 simp only[Cj]at h;obtain⟨n,rfl,hw⟩:=h;refine⟨n,rfl,?_⟩;simp[Lit.wf]at hw;have h1:IntKind.i64.min = -9223372036854775808:=by decide
 have h2:IntKind.i64.max=9223372036854775807:=by decide
 omega
theorem Su{ds:List D}(h:Cj .str ds):∃n:ByteArray,ds=[.v (.string n)]:=by
 simp only[Cj]at h;obtain⟨n,rfl,hw⟩:=h;exact⟨n,rfl⟩
theorem LI{α:Type}{e:α→D}{p:α→Prop}{S:Nat}{A:Bool}{s:Sh}{ds:List D}(he:∀cs,Cj s cs→∃x,rm A cs=e x∧p x) (h:Cj (.sl S A s) ds):∃l:List α,ds=[.sl S (l.map e)]∧l.length≤140737488355328∧∀x∈l,p x:=by
 simp only[Cj]at h;obtain⟨l,rfl,hn,hl⟩:=h;have:∀l:List D,(∀d∈l,∃cs,Cj s cs∧d=rm A cs)→∃r:List α,l=r.map e∧∀x∈r,p x:=by
  intro l
  induction l with
  |nil=>exact fun _=>⟨[],rfl,fun x hx=>by cases hx⟩
  |cons d l ih=>
   intro h;obtain⟨r,rfl,hr⟩:=ih fun d hd=>h d (by simp[hd]);obtain⟨cs,h1,rfl⟩:=h d (by simp);obtain⟨x,h2,h3⟩:=he cs h1;refine⟨x::r,by rw[h2];rfl,fun y hy=>?_⟩;rcases List.mem_cons.1 hy with rfl|hy
   ·exact h3
   ·exact hr y hy
 obtain⟨r,rfl,hr⟩:=this l hl;exact⟨r,rfl,by simpa using hn,hr⟩
theorem Rp{α:Type}{e:α→D}{p:α→Prop}{S:Nat}{A:Bool}{s:Sh}{ds:List D}(he:∀cs,Cj s cs→∃x,rm A cs=e x∧p x) (h:Cj (.sl S A s) ds):∃l:List α,ds=[.sl S (l.map e)]∧∀x∈l,p x:=by
 obtain⟨r,h1,-,h2⟩:=LI he h;exact⟨r,h1,h2⟩
theorem Hj{ds:List D}(h:Gp [] ds):ds=[]:=by simpa only[Gp] using h
theorem va{s:Sh}{l:List Sh}{ds:List D}(h:Gp (s::l) ds):∃a b,ds=a++b∧Cj s a∧Gp l b:=by simpa only[Gp] using h
theorem Jj{l:List Sh}{ds:List D}(h:Cj (.cat l) ds):Gp l ds:=by simpa only[Cj] using h
theorem Nu{ds:List D}(h:Cj (.cat [.int .i64,.int .i64]) ds):∃n m:Int,ds=[.v (.int .i64 n),.v (.int .i64 m)]∧(-9223372036854775808≤n∧n≤9223372036854775807)∧(-9223372036854775808≤m∧m≤9223372036854775807):=by
 obtain⟨a,b,rfl,h1,h⟩:=va (Jj h);obtain⟨c,d,rfl,h2,h⟩:=va h;obtain rfl:=Hj h;obtain⟨n,rfl,hn⟩:=Qh h1;obtain⟨m,rfl,hm⟩:=Qh h2;exact⟨n,m,rfl,hn,hm⟩
abbrev w9:Sh:=.cat [.str,.cat [.int .i64,.int .i64]]
abbrev shN:Sh:=.cat [.int .i64,.int .i64]
abbrev shR:Sh:=.cat [.str,.int .i64,.int .i64,.int .i64,.cat [.int .i64,.int .i64],.sl 2 true shN,.sl 2 true shN,.str]
abbrev shS:Sh:=.cat [.str,.int .i64,.sl 3 true w9,.sl 3 true w9,.sl 9 true shR]
abbrev shT:Sh:=.cat [.str,.cat [.int .i64,.int .i64],.cat [.int .i64,.int .i64],.sl 5 true (.cat [.cat [.int .i64,.int .i64],.int .i64,.int .i64,.int .i64])]
abbrev shL:Sh:=.cat [.sl 2 true (.cat [.str,.sl 1 false .str]),.sl 6 true shT,.sl 5 true shS]
theorem JU{cs:List D}(h:Cj shN cs):∃x:GNode,rm true cs=ob x∧Kc x:=by
 obtain⟨n,m,rfl,hn,hm⟩:=Nu h;exact⟨⟨n,m⟩,rfl,by unfold Kc;dsimp only;omega⟩
theorem WU{cs:List D}(h:Cj w9 cs):∃x:GField,rm true cs=Ua x∧True:=by
 obtain⟨a,b,rfl,h1,h⟩:=va (Jj h);obtain⟨c,d,rfl,h2,h⟩:=va h;obtain rfl:=Hj h;obtain⟨s,rfl⟩:=Su h1;obtain⟨n,m,rfl,hn,hm⟩:=Nu h2;exact⟨⟨s,⟨n,m⟩⟩,rfl,trivial⟩
theorem T1{cs:List D}(h:Cj shR cs):∃x:GRule,rm true cs=Qa x∧(∀n∈x.Guard,Kc n)∧∀n∈x.Value,Kc n:=by
 obtain⟨_,_,rfl,h1,h⟩:=va (Jj h);obtain⟨_,_,rfl,h2,h⟩:=va h;obtain⟨_,_,rfl,h3,h⟩:=va h;obtain⟨_,_,rfl,h4,h⟩:=va h;obtain⟨_,_,rfl,h5,h⟩:=va h;obtain⟨_,_,rfl,h6,h⟩:=va h;obtain⟨_,_,rfl,h7,h⟩:=va h;obtain⟨_,_,rfl,h8,h⟩:=va h;obtain rfl:=Hj h;obtain⟨s,rfl⟩:=Su h1;obtain⟨x2,rfl,-⟩:=Qh h2;obtain⟨x3,rfl,-⟩:=Qh h3;obtain⟨x4,rfl,-⟩:=Qh h4;obtain⟨n,m,rfl,-,-⟩:=Nu h5;obtain⟨g,rfl,hg⟩:=Rp (fun _=>JU) h6;obtain⟨v,rfl,hv⟩:=Rp (fun _=>JU) h7;obtain⟨t,rfl⟩:=Su h8;exact⟨⟨s,x2,x3,x4,⟨n,m⟩,g,v,t⟩,rfl,hg,hv⟩
theorem J4{cs:List D}(h:Cj shS cs):∃x:GScope,rm true cs=Ea x∧∀r∈x.Rules,(∀n∈r.Guard,Kc n)∧∀n∈r.Value,Kc n:=by
 obtain⟨_,_,rfl,h1,h⟩:=va (Jj h);obtain⟨_,_,rfl,h2,h⟩:=va h;obtain⟨_,_,rfl,h3,h⟩:=va h;obtain⟨_,_,rfl,h4,h⟩:=va h;obtain⟨_,_,rfl,h5,h⟩:=va h;obtain rfl:=Hj h;obtain⟨s,rfl⟩:=Su h1;obtain⟨x2,rfl,-⟩:=Qh h2;obtain⟨a,rfl,-⟩:=Rp (fun _=>WU) h3;obtain⟨b,rfl,-⟩:=Rp (fun _=>WU) h4;obtain⟨r,rfl,hr⟩:=Rp (fun _=>T1) h5;exact⟨⟨s,x2,a,b,r⟩,rfl,hr⟩
theorem B4{cs:List D}(h:Cj shT cs):∃x:GTable,rm true cs=yb x∧x.Rows.length≤1125899906842624:=by
 obtain⟨_,_,rfl,h1,h⟩:=va (Jj h);obtain⟨_,_,rfl,h2,h⟩:=va h;obtain⟨_,_,rfl,h3,h⟩:=va h;obtain⟨_,_,rfl,h4,h⟩:=va h;obtain rfl:=Hj h;obtain⟨s,rfl⟩:=Su h1;obtain⟨a,b,rfl,-,-⟩:=Nu h2;obtain⟨c,d,rfl,-,-⟩:=Nu h3;obtain⟨r,rfl,hr,-⟩:=LI (e:=di) (p:=fun _=>True) (fun cs h=>by
  obtain⟨_,_,rfl,h1,h⟩:=va (Jj h);obtain⟨_,_,rfl,h2,h⟩:=va h;obtain⟨_,_,rfl,h3,h⟩:=va h;obtain⟨_,_,rfl,h4,h⟩:=va h;obtain rfl:=Hj h;obtain⟨a,b,rfl,-,-⟩:=Nu h1;obtain⟨x2,rfl,-⟩:=Qh h2;obtain⟨x3,rfl,-⟩:=Qh h3;obtain⟨x4,rfl,-⟩:=Qh h4;exact⟨⟨⟨a,b⟩,x2,x3,x4⟩,rfl,trivial⟩) h4
 exact⟨⟨s,⟨a,b⟩,⟨c,d⟩,r⟩,rfl,by dsimp only;omega⟩
theorem OV{d:D}(h:LookV true shL d):∃x:GLaw,d=Zb x∧MO x∧∀t∈x.Tables,t.Rows.length≤1125899906842624:=by
 obtain⟨ds,h,rfl⟩:=h;obtain⟨_,_,rfl,h1,h⟩:=va (Jj h);obtain⟨_,_,rfl,h2,h⟩:=va h;obtain⟨_,_,rfl,h3,h⟩:=va h;obtain rfl:=Hj h;obtain⟨en,rfl,-⟩:=Rp (e:=Dg) (p:=fun _=>True) (fun cs h=>by
  obtain⟨_,_,rfl,h1,h⟩:=va (Jj h);obtain⟨_,_,rfl,h2,h⟩:=va h;obtain rfl:=Hj h;obtain⟨s,rfl⟩:=Su h1;obtain⟨m,rfl,-⟩:=Rp (e:=Eh) (p:=fun _=>True) (fun cs h=>by obtain⟨s,rfl⟩:=Su h;exact⟨s,rfl,trivial⟩) h2;exact⟨⟨s,m⟩,rfl,trivial⟩) h1
 obtain⟨tb,rfl,ht⟩:=Rp (fun _=>B4) h2;obtain⟨sc,rfl,hs⟩:=Rp (fun _=>J4) h3;exact⟨⟨en,tb,sc⟩,rfl,hs,ht⟩
end Go.Proofs.Dev
set_option linter.unusedSimpArgs false
set_option linter.unusedVariables false
set_option maxHeartbeats 1000000
set_option maxRecDepth 10000
namespace Go.Proofs.Dev
open Go Go.Tm
abbrev shC:Sh:=.cat [.int .i64,.int .i64,.int .i64,.int .i64,.int .i64,.int .i64,.int .i64,.cat [.int .i64,.sl 1 false (.int .i64)]]
theorem dec_C{d:D}(h:LookV true shC d):∃x:GPayConfig,d=Qd x:=by
 obtain⟨ds,h,rfl⟩:=h;obtain⟨_,_,rfl,h1,h⟩:=va (Jj h);obtain⟨_,_,rfl,h2,h⟩:=va h;obtain⟨_,_,rfl,h3,h⟩:=va h;obtain⟨_,_,rfl,h4,h⟩:=va h;obtain⟨_,_,rfl,h5,h⟩:=va h;obtain⟨_,_,rfl,h6,h⟩:=va h;obtain⟨_,_,rfl,h7,h⟩:=va h;obtain⟨_,_,rfl,h8,h⟩:=va h;obtain rfl:=Hj h;obtain⟨x1,rfl,-⟩:=Qh h1;obtain⟨x2,rfl,-⟩:=Qh h2;obtain⟨x3,rfl,-⟩:=Qh h3;obtain⟨x4,rfl,-⟩:=Qh h4;obtain⟨x5,rfl,-⟩:=Qh h5;obtain⟨x6,rfl,-⟩:=Qh h6;obtain⟨x7,rfl,-⟩:=Qh h7;obtain⟨_,_,rfl,h9,h⟩:=va (Jj h8);obtain⟨_,_,rfl,h10,h⟩:=va h;obtain rfl:=Hj h;obtain⟨x9,rfl,-⟩:=Qh h9;obtain⟨l,rfl,-⟩:=Rp (e:=aa) (p:=fun _=>True) (fun cs h=>by obtain⟨n,rfl,-⟩:=Qh h;exact⟨n,rfl,trivial⟩) h10;exact⟨⟨x1,x2,x3,x4,x5,x6,x7,⟨x9,l⟩⟩,rfl⟩
end Go.Proofs.Dev
set_option linter.unusedSimpArgs false
set_option linter.unusedVariables false
set_option maxHeartbeats 1000000
set_option maxRecDepth 10000
namespace Go.Proofs.Dev
open Go Go.Tm
abbrev shX:Sh:=.cat [.int .i64,.int .i64,.int .i64,.cat [.int .i64,.int .i64,.int .i64],.cat [.int .i64,.int .i64],.int .i64]
abbrev shH:Sh:=.cat [.int .i64,.int .i64,.int .i64,.sl 9 true shX]
theorem I5{cs:List D}(h:Cj shX cs):∃x:GFact,rm true cs=Al x∧True:=by
 obtain⟨_,_,rfl,h1,h⟩:=va (Jj h);obtain⟨_,_,rfl,h2,h⟩:=va h;obtain⟨_,_,rfl,h3,h⟩:=va h;obtain⟨_,_,rfl,h4,h⟩:=va h;obtain⟨_,_,rfl,h5,h⟩:=va h;obtain⟨_,_,rfl,h6,h⟩:=va h;obtain rfl:=Hj h;obtain⟨x1,rfl,-⟩:=Qh h1;obtain⟨x2,rfl,-⟩:=Qh h2;obtain⟨x3,rfl,-⟩:=Qh h3;obtain⟨_,_,rfl,g1,h⟩:=va (Jj h4);obtain⟨_,_,rfl,g2,h⟩:=va h;obtain⟨_,_,rfl,g3,h⟩:=va h;obtain rfl:=Hj h;obtain⟨y1,rfl,-⟩:=Qh g1;obtain⟨y2,rfl,-⟩:=Qh g2;obtain⟨y3,rfl,-⟩:=Qh g3;obtain⟨a,b,rfl,-,-⟩:=Nu h5;obtain⟨x6,rfl,-⟩:=Qh h6;exact⟨⟨x1,x2,x3,⟨y1,y2,y3⟩,⟨a,b⟩,x6⟩,rfl,trivial⟩
theorem TX{cs:List D}(h:Cj shH cs):∃x:GHousehold,rm true cs=Sa x∧True:=by
 obtain⟨_,_,rfl,h1,h⟩:=va (Jj h);obtain⟨_,_,rfl,h2,h⟩:=va h;obtain⟨_,_,rfl,h3,h⟩:=va h;obtain⟨_,_,rfl,h4,h⟩:=va h;obtain rfl:=Hj h;obtain⟨x1,rfl,-⟩:=Qh h1;obtain⟨x2,rfl,-⟩:=Qh h2;obtain⟨x3,rfl,-⟩:=Qh h3;obtain⟨l,rfl,-⟩:=Rp (fun _=>I5) h4;exact⟨⟨x1,x2,x3,l⟩,rfl,trivial⟩
theorem G6{d:D}(h:LookV true shH d):∃x:GHousehold,d=Sa x:=by
 obtain⟨ds,h,rfl⟩:=h;obtain⟨x,h,-⟩:=TX h;exact⟨x,h⟩
end Go.Proofs.Dev
set_option linter.unusedSimpArgs false
set_option linter.unusedVariables false
namespace Go.Proofs.Dev
open Go Go.Tm
abbrev shQ:Sh:=.cat [.int .i64,.int .i64,.int .i64]
theorem dec_Q{d:D}(h:LookV true shQ d):∃x:GGuerdonlaw36_Query,d=Eg x:=by
 obtain⟨ds,h,rfl⟩:=h;obtain⟨_,_,rfl,h1,h⟩:=va (Jj h);obtain⟨_,_,rfl,h2,h⟩:=va h;obtain⟨_,_,rfl,h3,h⟩:=va h;obtain rfl:=Hj h;obtain⟨x1,rfl,-⟩:=Qh h1;obtain⟨x2,rfl,-⟩:=Qh h2;obtain⟨x3,rfl,-⟩:=Qh h3;exact⟨⟨x1,x2,x3⟩,rfl⟩
end Go.Proofs.Dev
set_option linter.unusedVariables false
namespace Go.Proofs.Dev
open Go Go.Tm
theorem law_call(a b c d:D) (h1:LookV true shL a) (h2:LookV true shH b) (h3:LookV true shC c) (h4:LookV true shQ d):CallT Tryz.prog 6 [a,b,c,d] [] fun x _=>x=.v (.bool true):=by
 obtain⟨l,rfl,hl,hz⟩:=OV h1;obtain⟨x,rfl⟩:=G6 h2;obtain⟨y,rfl⟩:=dec_C h3;obtain⟨z,rfl⟩:=dec_Q h4;exact(dag (AwardUnchangedMonth_plain KE hz hl x y z) []).mono fun _ _ h=>h.1
end Go.Proofs.Dev
