/-
  The contract of the function of the statement: for all arguments of its types.
-/
import Derived.Test.YtjiaejcpmcknnaaGreatDoorPD
import Derived.Test.YtjiaejcpmcknnaaGreatDoorQ10
import Derived.Test.YtjiaejcpmcknnaaGreatDoorQ11
set_option linter.all false
set_option maxHeartbeats 1000000
set_option maxRecDepth 10000
set_option linter.unusedSimpArgs false
set_option linter.unusedVariables false
set_option maxHeartbeats 1000000
set_option maxRecDepth 10000
namespace Go.Proofs.Dev
open Go Go.Tm
theorem Pm{ds:List D}(h:om (.int .i64) ds):∃n:Int,ds=[.v (.int .i64 n)]/\-9223372036854775808<=n/\n<=9223372036854775807:=by
 simp only[om]at h;obtain⟨n,rfl,hw⟩:=h;refine⟨n,rfl,?_⟩;simp[Lit.wf]at hw;have h1:IntKind.i64.min = -9223372036854775808:=by decide
 have h2:IntKind.i64.max=9223372036854775807:=by decide
 omega
theorem Jz{ds:List D}(h:om .str ds):∃n:ByteArray,ds=[.v (.string n)]:=by
 simp only[om]at h;obtain⟨n,rfl,hw⟩:=h;exact⟨n,rfl⟩
theorem PO{α:Type}{e:α->D}{p:α->Prop}{S:Nat}{A:Bool}{s:Sh}{ds:List D}(he:∀cs,om s cs->∃x,uq A cs=e x/\p x) (h:om (.sl S A s) ds):∃l:List α,ds=[.sl S (l.map e)]/\l.length<=140737488355328/\∀x∈l,p x:=by
 simp only[om]at h;obtain⟨l,rfl,hn,hl⟩:=h;have:∀l:List D,(∀d∈l,∃cs,om s cs/\d=uq A cs)->∃r:List α,l=r.map e/\∀x∈r,p x:=by
  intro l
  induction l with
  |nil=>exact λ_=>⟨[],rfl,λx hx=>by cases hx⟩
  |cons d l ih=>
   intro h;obtain⟨r,rfl,hr⟩:=ih λd hd=>h d (by simp[hd]);obtain⟨cs,h1,rfl⟩:=h d (by simp);obtain⟨x,h2,h3⟩:=he cs h1;refine⟨x::r,by rw[h2];rfl,λy hy=>?_⟩;rcases List.mem_cons.1 hy with rfl|hy
   .exact h3
   .exact hr y hy
 obtain⟨r,rfl,hr⟩:=this l hl;exact⟨r,rfl,by simpa using hn,hr⟩
theorem js{α:Type}{e:α->D}{p:α->Prop}{S:Nat}{A:Bool}{s:Sh}{ds:List D}(he:∀cs,om s cs->∃x,uq A cs=e x/\p x) (h:om (.sl S A s) ds):∃l:List α,ds=[.sl S (l.map e)]/\∀x∈l,p x:=by
 obtain⟨r,h1,-,h2⟩:=PO he h;exact⟨r,h1,h2⟩
theorem Qm{ds:List D}(h:vu [] ds):ds=[]:=by simpa only[vu] using h
theorem Ga{s:Sh}{l:List Sh}{ds:List D}(h:vu (s::l) ds):∃a b,ds=a++b/\om s a/\vu l b:=by simpa only[vu] using h
theorem Om{l:List Sh}{ds:List D}(h:om (.cat l) ds):vu l ds:=by simpa only[om] using h
theorem pC{ds:List D}(h:om (.cat [.int .i64,.int .i64]) ds):∃n m:Int,ds=[.v (.int .i64 n),.v (.int .i64 m)]/\(-9223372036854775808<=n/\n<=9223372036854775807)/\(-9223372036854775808<=m/\m<=9223372036854775807):=by
 obtain⟨a,b,rfl,h1,h⟩:=Ga (Om h);obtain⟨c,d,rfl,h2,h⟩:=Ga h;obtain rfl:=Qm h;obtain⟨n,rfl,hn⟩:=Pm h1;obtain⟨m,rfl,hm⟩:=Pm h2;exact⟨n,m,rfl,hn,hm⟩
abbrev shF:Sh:=.cat [.str,.cat [.int .i64,.int .i64]]
abbrev shN:Sh:=.cat [.int .i64,.int .i64]
abbrev shR:Sh:=.cat [.str,.int .i64,.int .i64,.int .i64,.cat [.int .i64,.int .i64],.sl 2 true shN,.sl 2 true shN,.str]
abbrev shS:Sh:=.cat [.str,.int .i64,.sl 3 true shF,.sl 3 true shF,.sl 9 true shR]
abbrev shT:Sh:=.cat [.str,.cat [.int .i64,.int .i64],.cat [.int .i64,.int .i64],.sl 5 true (.cat [.cat [.int .i64,.int .i64],.int .i64,.int .i64,.int .i64])]
abbrev shL:Sh:=.cat [.sl 2 true (.cat [.str,.sl 1 false .str]),.sl 6 true shT,.sl 5 true shS]
theorem U0{cs:List D}(h:om shN cs):∃x:GNode,uq true cs=La x/\Xa x:=by
 obtain⟨n,m,rfl,hn,hm⟩:=pC h;exact⟨⟨n,m⟩,rfl,by unfold Xa;dsimp only;omega⟩
theorem S0{cs:List D}(h:om shF cs):∃x:GField,uq true cs=bb x/\True:=by
 obtain⟨a,b,rfl,h1,h⟩:=Ga (Om h);obtain⟨c,d,rfl,h2,h⟩:=Ga h;obtain rfl:=Qm h;obtain⟨s,rfl⟩:=Jz h1;obtain⟨n,m,rfl,hn,hm⟩:=pC h2;exact⟨⟨s,⟨n,m⟩⟩,rfl,trivial⟩
theorem Y9{cs:List D}(h:om shR cs):∃x:GRule,uq true cs=Za x/\(∀n∈x.Guard,Xa n)/\∀n∈x.Value,Xa n:=by
 obtain⟨_,_,rfl,h1,h⟩:=Ga (Om h);obtain⟨_,_,rfl,h2,h⟩:=Ga h;obtain⟨_,_,rfl,h3,h⟩:=Ga h;obtain⟨_,_,rfl,h4,h⟩:=Ga h;obtain⟨_,_,rfl,h5,h⟩:=Ga h;obtain⟨_,_,rfl,h6,h⟩:=Ga h;obtain⟨_,_,rfl,h7,h⟩:=Ga h;obtain⟨_,_,rfl,h8,h⟩:=Ga h;obtain rfl:=Qm h;obtain⟨s,rfl⟩:=Jz h1;obtain⟨x2,rfl,-⟩:=Pm h2;obtain⟨x3,rfl,-⟩:=Pm h3;obtain⟨x4,rfl,-⟩:=Pm h4;obtain⟨n,m,rfl,-,-⟩:=pC h5;obtain⟨g,rfl,hg⟩:=js (λ_=>U0) h6;obtain⟨v,rfl,hv⟩:=js (λ_=>U0) h7;obtain⟨t,rfl⟩:=Jz h8;exact⟨⟨s,x2,x3,x4,⟨n,m⟩,g,v,t⟩,rfl,hg,hv⟩
theorem Z9{cs:List D}(h:om shS cs):∃x:GScope,uq true cs=Ca x/\∀r∈x.Rules,(∀n∈r.Guard,Xa n)/\∀n∈r.Value,Xa n:=by
 obtain⟨_,_,rfl,h1,h⟩:=Ga (Om h);obtain⟨_,_,rfl,h2,h⟩:=Ga h;obtain⟨_,_,rfl,h3,h⟩:=Ga h;obtain⟨_,_,rfl,h4,h⟩:=Ga h;obtain⟨_,_,rfl,h5,h⟩:=Ga h;obtain rfl:=Qm h;obtain⟨s,rfl⟩:=Jz h1;obtain⟨x2,rfl,-⟩:=Pm h2;obtain⟨a,rfl,-⟩:=js (λ_=>S0) h3;obtain⟨b,rfl,-⟩:=js (λ_=>S0) h4;obtain⟨r,rfl,hr⟩:=js (λ_=>Y9) h5;exact⟨⟨s,x2,a,b,r⟩,rfl,hr⟩
theorem aaa{cs:List D}(h:om shT cs):∃x:GTable,uq true cs=sb x/\x.Rows.length<=1125899906842624:=by
 obtain⟨_,_,rfl,h1,h⟩:=Ga (Om h);obtain⟨_,_,rfl,h2,h⟩:=Ga h;obtain⟨_,_,rfl,h3,h⟩:=Ga h;obtain⟨_,_,rfl,h4,h⟩:=Ga h;obtain rfl:=Qm h;obtain⟨s,rfl⟩:=Jz h1;obtain⟨a,b,rfl,-,-⟩:=pC h2;obtain⟨c,d,rfl,-,-⟩:=pC h3;obtain⟨r,rfl,hr,-⟩:=PO (e:=uh) (p:=λ_=>True) (λcs h=>by
  obtain⟨_,_,rfl,h1,h⟩:=Ga (Om h);obtain⟨_,_,rfl,h2,h⟩:=Ga h;obtain⟨_,_,rfl,h3,h⟩:=Ga h;obtain⟨_,_,rfl,h4,h⟩:=Ga h;obtain rfl:=Qm h;obtain⟨a,b,rfl,-,-⟩:=pC h1;obtain⟨x2,rfl,-⟩:=Pm h2;obtain⟨x3,rfl,-⟩:=Pm h3;obtain⟨x4,rfl,-⟩:=Pm h4;exact⟨⟨⟨a,b⟩,x2,x3,x4⟩,rfl,trivial⟩) h4
 exact⟨⟨s,⟨a,b⟩,⟨c,d⟩,r⟩,rfl,by dsimp only;omega⟩
theorem L4{d:D}(h:LookV true shL d):∃x:GLaw,d=ab x/\BE x/\∀t∈x.Tables,t.Rows.length<=1125899906842624:=by
 obtain⟨ds,h,rfl⟩:=h;obtain⟨_,_,rfl,h1,h⟩:=Ga (Om h);obtain⟨_,_,rfl,h2,h⟩:=Ga h;obtain⟨_,_,rfl,h3,h⟩:=Ga h;obtain rfl:=Qm h;obtain⟨en,rfl,-⟩:=js (e:=lg) (p:=λ_=>True) (λcs h=>by
  obtain⟨_,_,rfl,h1,h⟩:=Ga (Om h);obtain⟨_,_,rfl,h2,h⟩:=Ga h;obtain rfl:=Qm h;obtain⟨s,rfl⟩:=Jz h1;obtain⟨m,rfl,-⟩:=js (e:=ng) (p:=λ_=>True) (λcs h=>by obtain⟨s,rfl⟩:=Jz h;exact⟨s,rfl,trivial⟩) h2;exact⟨⟨s,m⟩,rfl,trivial⟩) h1
 obtain⟨tb,rfl,ht⟩:=js (λ_=>aaa) h2;obtain⟨sc,rfl,hs⟩:=js (λ_=>Z9) h3;exact⟨⟨en,tb,sc⟩,rfl,hs,ht⟩
theorem X9{d:D}(h:LookV true shL d):∃x:GLaw,d=ab x/\BE x:=by
 obtain⟨x,h1,h2,-⟩:=L4 h;exact⟨x,h1,h2⟩
theorem T0{d:D}(h:LookV false (.int .i64) d):∃n:Int,d=aa n:=by
 obtain⟨ds,h,rfl⟩:=h;obtain⟨n,rfl,-⟩:=Pm h;exact⟨n,rfl⟩
end Go.Proofs.Dev
set_option linter.unusedSimpArgs false
set_option linter.unusedVariables false
set_option maxHeartbeats 1000000
set_option maxRecDepth 10000
namespace Go.Proofs.Dev
open Go Go.Tm
abbrev shV:Sh:=.cat [.int .i64,.int .i64,.int .i64]
abbrev shK:Sh:=.cat [.int .i64,.sl 3 true shV,.sl 1 false (.sl 3 true shV)]
theorem V0{cs:List D}(h:om shV cs):∃x:GValue,uq true cs=ma x/\True:=by
 obtain⟨_,_,rfl,h1,h⟩:=Ga (Om h);obtain⟨_,_,rfl,h2,h⟩:=Ga h;obtain⟨_,_,rfl,h3,h⟩:=Ga h;obtain rfl:=Qm h;obtain⟨x1,rfl,-⟩:=Pm h1;obtain⟨x2,rfl,-⟩:=Pm h2;obtain⟨x3,rfl,-⟩:=Pm h3;exact⟨⟨x1,x2,x3⟩,rfl,trivial⟩
theorem M4{cs:List D}(h:om (.sl 3 true shV) cs):∃x:List GValue,uq false cs=gb x/\True:=by
 obtain⟨l,rfl,-⟩:=js (λ_=>V0) h;exact⟨l,rfl,trivial⟩
theorem W9{d:D}(h:LookV true shK d):∃x:GCase,d=wo x:=by
 obtain⟨ds,h,rfl⟩:=h;obtain⟨_,_,rfl,h1,h⟩:=Ga (Om h);obtain⟨_,_,rfl,h2,h⟩:=Ga h;obtain⟨_,_,rfl,h3,h⟩:=Ga h;obtain rfl:=Qm h;obtain⟨x1,rfl,-⟩:=Pm h1;obtain⟨l,rfl,-⟩:=js (λ_=>V0) h2;obtain⟨m,rfl,-⟩:=js (λ_=>M4) h3;exact⟨⟨x1,l,m⟩,rfl⟩
end Go.Proofs.Dev
set_option linter.unusedSimpArgs false
set_option linter.unusedVariables false
set_option maxHeartbeats 1000000
set_option maxRecDepth 10000
namespace Go.Proofs.Dev
open Go Go.Tm
abbrev shA3:Sh:=.cat [.int .i64,.int .i64,.int .i64]
theorem dec_A3{d:D}(h:LookV true shA3 d):∃x:GA3,d=oI x:=by
 obtain⟨ds,h,rfl⟩:=h;obtain⟨_,_,rfl,h1,h⟩:=Ga (Om h);obtain⟨_,_,rfl,h2,h⟩:=Ga h;obtain⟨_,_,rfl,h3,h⟩:=Ga h;obtain rfl:=Qm h;obtain⟨x1,rfl,-⟩:=Pm h1;obtain⟨x2,rfl,-⟩:=Pm h2;obtain⟨x3,rfl,-⟩:=Pm h3;exact⟨⟨x1,x2,x3⟩,rfl⟩
end Go.Proofs.Dev
set_option linter.unusedVariables false
namespace Go.Proofs.Dev
open Go Go.Tm
theorem law_call(a b:D) (h1:LookV true shL a) (h2:LookV true shA3 b):CallT Tryz.prog 7 [a,b] [] λx _=>x=.v (.bool true):=by
 obtain⟨l,rfl,hl⟩:=X9 h1;obtain⟨x,rfl⟩:=dec_A3 h2;exact(iah (tM lW hl x) []).mono λ_ _ h=>h.1
end Go.Proofs.Dev
