/-
  The contract of the function of the statement: for all arguments of its types.
-/
import Derived.Test.YtjiaejcpmcknnaaGreatDoorPD
import Derived.Test.YtjiaejcpmcknnaaGreatDoorQ12
set_option linter.all false
set_option maxHeartbeats 1000000
set_option maxRecDepth 10000
set_option linter.unusedSimpArgs false
set_option linter.unusedVariables false
set_option maxHeartbeats 1000000
set_option maxRecDepth 10000
namespace Go.Proofs.Dev
open Go Go.Tm
theorem Aq{ds:List D}(h:Sl (.int .i64) ds):∃n:Int,ds=[.v (.int .i64 n)]/\-9223372036854775808<=n/\n<=9223372036854775807:=by
 simp only[Sl]at h;obtain⟨n,rfl,hw⟩:=h;refine⟨n,rfl,?_⟩;simp[Lit.wf]at hw;have h1:IntKind.i64.min = -9223372036854775808:=by decide
 omega
theorem fy{ds:List D}(h:Sl .str ds):∃n:ByteArray,ds=[.v (.string n)]:=by
 simp only[Sl]at h
 grind
theorem kL{α:Type}{e:α->D}{p:α->Prop}{S:Nat}{A:Bool}{s:Sh}{ds:List D}(he:∀cs,Sl s cs->∃x,Rq A cs=e x/\p x) (h:Sl (.sl S A s) ds):∃l:List α,ds=[.sl S (l.map e)]/\l.length<=140737488355328/\∀x∈l,p x:=by
 simp only[Sl]at h;obtain⟨l,rfl,hn,hl⟩:=h;have:∀l:List D,(∀d∈l,∃cs,Sl s cs/\d=Rq A cs)->∃r:List α,l=r.map e/\∀x∈r,p x:=by
  intro l
  induction l with
  |nil=>simp
  |cons d l ih=>
   intro h;obtain⟨r,rfl,hr⟩:=ih λd hd=>h d (by grind);obtain⟨cs,h1,rfl⟩:=h d (by simp);obtain⟨x,h2,h3⟩:=he cs h1;refine⟨x::r,by simp_all,λy hy=>?_⟩
   grind
 obtain⟨r,rfl,hr⟩:=this l hl
 grind
theorem Tu{α:Type}{e:α->D}{p:α->Prop}{S:Nat}{A:Bool}{s:Sh}{ds:List D}(he:∀cs,Sl s cs->∃x,Rq A cs=e x/\p x) (h:Sl (.sl S A s) ds):∃l:List α,ds=[.sl S (l.map e)]/\∀x∈l,p x:=by
 obtain⟨r,h1,-,h2⟩:=kL he h
 grind
theorem fo{ds:List D}(h:Ns [] ds):ds=[]:=by simpa only[Ns] using h
theorem Na{s:Sh}{l:List Sh}{ds:List D}(h:Ns (s::l) ds):∃a b,ds=a++b/\Sl s a/\Ns l b:=by simpa only[Ns] using h
theorem Zn{l:List Sh}{ds:List D}(h:Sl (.cat l) ds):Ns l ds:=by simpa only[Sl] using h
theorem EA{ds:List D}(h:Sl (.cat [.int .i64,.int .i64]) ds):∃n m:Int,ds=[.v (.int .i64 n),.v (.int .i64 m)]/\(-9223372036854775808<=n/\n<=9223372036854775807)/\(-9223372036854775808<=m/\m<=9223372036854775807):=by
 obtain⟨a,b,rfl,h1,h⟩:=Na (Zn h);obtain⟨c,d,rfl,h2,h⟩:=Na h;obtain rfl:=fo h;obtain⟨n,rfl,hn⟩:=Aq h1;obtain⟨m,rfl,hm⟩:=Aq h2
 grind
abbrev shF:Sh:=.cat [.str,.cat [.int .i64,.int .i64]]
abbrev shN:Sh:=.cat [.int .i64,.int .i64]
abbrev shR:Sh:=.cat [.str,.int .i64,.int .i64,.int .i64,.cat [.int .i64,.int .i64],.sl 2 true shN,.sl 2 true shN,.str]
abbrev shS:Sh:=.cat [.str,.int .i64,.sl 3 true shF,.sl 3 true shF,.sl 9 true shR]
abbrev shT:Sh:=.cat [.str,.cat [.int .i64,.int .i64],.cat [.int .i64,.int .i64],.sl 5 true (.cat [.cat [.int .i64,.int .i64],.int .i64,.int .i64,.int .i64])]
abbrev shL:Sh:=.cat [.sl 2 true (.cat [.str,.sl 1 false .str]),.sl 6 true shT,.sl 5 true shS]
theorem mW{cs:List D}(h:Sl shN cs):∃x:GNode,Rq true cs=Ea x/\wb x:=by
 obtain⟨n,m,rfl,hn,hm⟩:=EA h;exact⟨⟨n,m⟩,rfl,by unfold wb;omega⟩
theorem lW{cs:List D}(h:Sl shF cs):∃x:GField,Rq true cs=Ya x/\True:=by
 obtain⟨a,b,rfl,h1,h⟩:=Na (Zn h);obtain⟨c,d,rfl,h2,h⟩:=Na h;obtain rfl:=fo h;obtain⟨s,rfl⟩:=fy h1;obtain⟨n,m,rfl,hn,hm⟩:=EA h2;exact⟨⟨s,⟨n,m⟩⟩,rfl,trivial⟩
theorem J2{cs:List D}(h:Sl shR cs):∃x:GRule,Rq true cs=Xa x/\(∀n∈x.Guard,wb n)/\∀n∈x.Value,wb n:=by
 obtain⟨_,_,rfl,h1,h⟩:=Na (Zn h);obtain⟨_,_,rfl,h2,h⟩:=Na h;obtain⟨_,_,rfl,h3,h⟩:=Na h;obtain⟨_,_,rfl,h4,h⟩:=Na h;obtain⟨_,_,rfl,h5,h⟩:=Na h;obtain⟨_,_,rfl,h6,h⟩:=Na h;obtain⟨_,_,rfl,h7,h⟩:=Na h;obtain⟨_,_,rfl,h8,h⟩:=Na h;obtain rfl:=fo h;obtain⟨s,rfl⟩:=fy h1;obtain⟨x2,rfl,-⟩:=Aq h2;obtain⟨x3,rfl,-⟩:=Aq h3;obtain⟨x4,rfl,-⟩:=Aq h4;obtain⟨n,m,rfl,-,-⟩:=EA h5;obtain⟨g,rfl,hg⟩:=Tu (λ_=>mW) h6;obtain⟨v,rfl,hv⟩:=Tu (λ_=>mW) h7;obtain⟨t,rfl⟩:=fy h8;exact⟨⟨s,x2,x3,x4,⟨n,m⟩,g,v,t⟩,rfl,hg,hv⟩
theorem K2{cs:List D}(h:Sl shS cs):∃x:GScope,Rq true cs=Ca x/\∀r∈x.Rules,(∀n∈r.Guard,wb n)/\∀n∈r.Value,wb n:=by
 obtain⟨_,_,rfl,h1,h⟩:=Na (Zn h);obtain⟨_,_,rfl,h2,h⟩:=Na h;obtain⟨_,_,rfl,h3,h⟩:=Na h;obtain⟨_,_,rfl,h4,h⟩:=Na h;obtain⟨_,_,rfl,h5,h⟩:=Na h;obtain rfl:=fo h;obtain⟨s,rfl⟩:=fy h1;obtain⟨x2,rfl,-⟩:=Aq h2;obtain⟨a,rfl,-⟩:=Tu (λ_=>lW) h3;obtain⟨b,rfl,-⟩:=Tu (λ_=>lW) h4;obtain⟨r,rfl,hr⟩:=Tu (λ_=>J2) h5;exact⟨⟨s,x2,a,b,r⟩,rfl,hr⟩
theorem L2{cs:List D}(h:Sl shT cs):∃x:GTable,Rq true cs=eb x/\x.Rows.length<=1125899906842624:=by
 obtain⟨_,_,rfl,h1,h⟩:=Na (Zn h);obtain⟨_,_,rfl,h2,h⟩:=Na h;obtain⟨_,_,rfl,h3,h⟩:=Na h;obtain⟨_,_,rfl,h4,h⟩:=Na h;obtain rfl:=fo h;obtain⟨s,rfl⟩:=fy h1;obtain⟨a,b,rfl,-,-⟩:=EA h2;obtain⟨c,d,rfl,-,-⟩:=EA h3;obtain⟨r,rfl,hr,-⟩:=kL (e:=jg) (p:=λ_=>True) (λcs h=>by
  obtain⟨_,_,rfl,h1,h⟩:=Na (Zn h);obtain⟨_,_,rfl,h2,h⟩:=Na h;obtain⟨_,_,rfl,h3,h⟩:=Na h;obtain⟨_,_,rfl,h4,h⟩:=Na h;obtain rfl:=fo h;obtain⟨a,b,rfl,-,-⟩:=EA h1;obtain⟨x2,rfl,-⟩:=Aq h2;obtain⟨x3,rfl,-⟩:=Aq h3;obtain⟨x4,rfl,-⟩:=Aq h4;exact⟨⟨⟨a,b⟩,x2,x3,x4⟩,rfl,trivial⟩) h4
 exact⟨⟨s,⟨a,b⟩,⟨c,d⟩,r⟩,rfl,by grind⟩
theorem KX{d:D}(h:LookV true shL d):∃x:GLaw,d=Ib x/\AH x/\∀t∈x.Tables,t.Rows.length<=1125899906842624:=by
 obtain⟨ds,h,rfl⟩:=h;obtain⟨_,_,rfl,h1,h⟩:=Na (Zn h);obtain⟨_,_,rfl,h2,h⟩:=Na h;obtain⟨_,_,rfl,h3,h⟩:=Na h;obtain rfl:=fo h;obtain⟨en,rfl,-⟩:=Tu (e:=bf) (p:=λ_=>True) (λcs h=>by
  obtain⟨_,_,rfl,h1,h⟩:=Na (Zn h);obtain⟨_,_,rfl,h2,h⟩:=Na h;obtain rfl:=fo h;obtain⟨s,rfl⟩:=fy h1;obtain⟨m,rfl,-⟩:=Tu (e:=df) (p:=λ_=>True) (λcs h=>by obtain⟨s,rfl⟩:=fy h;exact⟨s,rfl,trivial⟩) h2;exact⟨⟨s,m⟩,rfl,trivial⟩) h1
 obtain⟨tb,rfl,ht⟩:=Tu (λ_=>L2) h2;obtain⟨sc,rfl,hs⟩:=Tu (λ_=>K2) h3;exact⟨⟨en,tb,sc⟩,rfl,hs,ht⟩
theorem F2{d:D}(h:LookV true shL d):∃x:GLaw,d=Ib x/\AH x:=by
 grind[KX]
end Go.Proofs.Dev
set_option linter.unusedSimpArgs false
set_option linter.unusedVariables false
set_option maxHeartbeats 1000000
set_option maxRecDepth 10000
namespace Go.Proofs.Dev
open Go Go.Tm
abbrev shA3:Sh:=.cat [.int .i64,.int .i64,.int .i64]
theorem JX{d:D}(h:LookV true shA3 d):∃x:GA3,d=PC x:=by
 obtain⟨ds,h,rfl⟩:=h;obtain⟨_,_,rfl,h1,h⟩:=Na (Zn h);obtain⟨_,_,rfl,h2,h⟩:=Na h;obtain⟨_,_,rfl,h3,h⟩:=Na h;obtain rfl:=fo h;obtain⟨x1,rfl,-⟩:=Aq h1;obtain⟨x2,rfl,-⟩:=Aq h2;obtain⟨x3,rfl,-⟩:=Aq h3;exact⟨⟨x1,x2,x3⟩,rfl⟩
end Go.Proofs.Dev
set_option linter.unusedVariables false
namespace Go.Proofs.Dev
open Go Go.Tm
theorem law_call(a b:D) (h1:LookV true shL a) (h2:LookV true shA3 b):CallT Tryz.prog 5 [a,b] [] λx _=>x=.v (.bool true):=by
 obtain⟨l,rfl,hl⟩:=F2 h1;obtain⟨x,rfl⟩:=JX h2;exact(Wn (Rw EE hl x) []).mono λ_ _ h=>h.1
end Go.Proofs.Dev
