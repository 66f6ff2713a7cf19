/-
  The contract of the function of the statement: for all arguments of its types.
-/
import Derived.Test.YtjiaejcpmcknnaaGreatDoorPD
import Derived.Test.YtjiaejcpmcknnaaGreatDoorQ11
set_option linter.all false
set_option maxHeartbeats 1000000
set_option maxRecDepth 10000
set_option linter.unusedSimpArgs false
set_option linter.unusedVariables false
set_option maxHeartbeats 1000000
set_option maxRecDepth 10000
namespace Go.Proofs.Dev
open Go Go.Tm
theorem Cp{ds:List D}(h:Km (.int .i64) ds):∃n:Int,ds=[.v (.int .i64 n)]/\-9223372036854775808<=n/\n<=9223372036854775807:=by
 simp only[Km]at h;obtain⟨n,rfl,hw⟩:=h;refine⟨n,rfl,?_⟩;simp[Lit.wf]at hw;have h1:IntKind.i64.min = -9223372036854775808:=by decide
 omega
theorem lA{ds:List D}(h:Km .str ds):∃n:ByteArray,ds=[.v (.string n)]:=by
 simp only[Km]at h
 grind
theorem sQ{α:Type}{e:α->D}{p:α->Prop}{S:Nat}{A:Bool}{s:Sh}{ds:List D}(he:∀cs,Km s cs->∃x,Xq A cs=e x/\p x) (h:Km (.sl S A s) ds):∃l:List α,ds=[.sl S (l.map e)]/\l.length<=140737488355328/\∀x∈l,p x:=by
 simp only[Km]at h;obtain⟨l,rfl,hn,hl⟩:=h;have:∀l:List D,(∀d∈l,∃cs,Km s cs/\d=Xq A cs)->∃r:List α,l=r.map e/\∀x∈r,p x:=by
  intro l
  induction l with
  |nil=>simp
  |cons d l ih=>
   intro h;obtain⟨r,rfl,hr⟩:=ih λd hd=>h d (by grind);obtain⟨cs,h1,rfl⟩:=h d (by simp);obtain⟨x,h2,h3⟩:=he cs h1;refine⟨x::r,by simp_all,λy hy=>?_⟩
   grind
 obtain⟨r,rfl,hr⟩:=this l hl
 grind
theorem Us{α:Type}{e:α->D}{p:α->Prop}{S:Nat}{A:Bool}{s:Sh}{ds:List D}(he:∀cs,Km s cs->∃x,Xq A cs=e x/\p x) (h:Km (.sl S A s) ds):∃l:List α,ds=[.sl S (l.map e)]/\∀x∈l,p x:=by
 obtain⟨r,h1,-,h2⟩:=sQ he h
 grind
theorem yn{ds:List D}(h:Ku [] ds):ds=[]:=by simpa only[Ku] using h
theorem Ia{s:Sh}{l:List Sh}{ds:List D}(h:Ku (s::l) ds):∃a b,ds=a++b/\Km s a/\Ku l b:=by simpa only[Ku] using h
theorem xn{l:List Sh}{ds:List D}(h:Km (.cat l) ds):Ku l ds:=by simpa only[Km] using h
theorem QC{ds:List D}(h:Km (.cat [.int .i64,.int .i64]) ds):∃n m:Int,ds=[.v (.int .i64 n),.v (.int .i64 m)]/\(-9223372036854775808<=n/\n<=9223372036854775807)/\(-9223372036854775808<=m/\m<=9223372036854775807):=by
 obtain⟨a,b,rfl,h1,h⟩:=Ia (xn h);obtain⟨c,d,rfl,h2,h⟩:=Ia h;obtain rfl:=yn h;obtain⟨n,rfl,hn⟩:=Cp h1;obtain⟨m,rfl,hm⟩:=Cp h2
 grind
abbrev shF:Sh:=.cat [.str,.cat [.int .i64,.int .i64]]
abbrev shN:Sh:=.cat [.int .i64,.int .i64]
abbrev shR:Sh:=.cat [.str,.int .i64,.int .i64,.int .i64,.cat [.int .i64,.int .i64],.sl 2 true shN,.sl 2 true shN,.str]
abbrev shS:Sh:=.cat [.str,.int .i64,.sl 3 true shF,.sl 3 true shF,.sl 9 true shR]
abbrev shT:Sh:=.cat [.str,.cat [.int .i64,.int .i64],.cat [.int .i64,.int .i64],.sl 5 true (.cat [.cat [.int .i64,.int .i64],.int .i64,.int .i64,.int .i64])]
abbrev shL:Sh:=.cat [.sl 2 true (.cat [.str,.sl 1 false .str]),.sl 6 true shT,.sl 5 true shS]
theorem Z4{cs:List D}(h:Km shN cs):∃x:GNode,Xq true cs=Na x/\Xa x:=by
 obtain⟨n,m,rfl,hn,hm⟩:=QC h;exact⟨⟨n,m⟩,rfl,by unfold Xa;omega⟩
theorem Y4{cs:List D}(h:Km shF cs):∃x:GField,Xq true cs=ab x/\True:=by
 obtain⟨a,b,rfl,h1,h⟩:=Ia (xn h);obtain⟨c,d,rfl,h2,h⟩:=Ia h;obtain rfl:=yn h;obtain⟨s,rfl⟩:=lA h1;obtain⟨n,m,rfl,hn,hm⟩:=QC h2;exact⟨⟨s,⟨n,m⟩⟩,rfl,trivial⟩
theorem dec_R{cs:List D}(h:Km shR cs):∃x:GRule,Xq true cs=Za x/\(∀n∈x.Guard,Xa n)/\∀n∈x.Value,Xa n:=by
 obtain⟨_,_,rfl,h1,h⟩:=Ia (xn h);obtain⟨_,_,rfl,h2,h⟩:=Ia h;obtain⟨_,_,rfl,h3,h⟩:=Ia h;obtain⟨_,_,rfl,h4,h⟩:=Ia h;obtain⟨_,_,rfl,h5,h⟩:=Ia h;obtain⟨_,_,rfl,h6,h⟩:=Ia h;obtain⟨_,_,rfl,h7,h⟩:=Ia h;obtain⟨_,_,rfl,h8,h⟩:=Ia h;obtain rfl:=yn h;obtain⟨s,rfl⟩:=lA h1;obtain⟨x2,rfl,-⟩:=Cp h2;obtain⟨x3,rfl,-⟩:=Cp h3;obtain⟨x4,rfl,-⟩:=Cp h4;obtain⟨n,m,rfl,-,-⟩:=QC h5;obtain⟨g,rfl,hg⟩:=Us (λ_=>Z4) h6;obtain⟨v,rfl,hv⟩:=Us (λ_=>Z4) h7;obtain⟨t,rfl⟩:=lA h8;exact⟨⟨s,x2,x3,x4,⟨n,m⟩,g,v,t⟩,rfl,hg,hv⟩
theorem dec_S{cs:List D}(h:Km shS cs):∃x:GScope,Xq true cs=Ea x/\∀r∈x.Rules,(∀n∈r.Guard,Xa n)/\∀n∈r.Value,Xa n:=by
 obtain⟨_,_,rfl,h1,h⟩:=Ia (xn h);obtain⟨_,_,rfl,h2,h⟩:=Ia h;obtain⟨_,_,rfl,h3,h⟩:=Ia h;obtain⟨_,_,rfl,h4,h⟩:=Ia h;obtain⟨_,_,rfl,h5,h⟩:=Ia h;obtain rfl:=yn h;obtain⟨s,rfl⟩:=lA h1;obtain⟨x2,rfl,-⟩:=Cp h2;obtain⟨a,rfl,-⟩:=Us (λ_=>Y4) h3;obtain⟨b,rfl,-⟩:=Us (λ_=>Y4) h4;obtain⟨r,rfl,hr⟩:=Us (λ_=>dec_R) h5;exact⟨⟨s,x2,a,b,r⟩,rfl,hr⟩
theorem dec_T{cs:List D}(h:Km shT cs):∃x:GTable,Xq true cs=ob x/\x.Rows.length<=1125899906842624:=by
 obtain⟨_,_,rfl,h1,h⟩:=Ia (xn h);obtain⟨_,_,rfl,h2,h⟩:=Ia h;obtain⟨_,_,rfl,h3,h⟩:=Ia h;obtain⟨_,_,rfl,h4,h⟩:=Ia h;obtain rfl:=yn h;obtain⟨s,rfl⟩:=lA h1;obtain⟨a,b,rfl,-,-⟩:=QC h2;obtain⟨c,d,rfl,-,-⟩:=QC h3;obtain⟨r,rfl,hr,-⟩:=sQ (e:=Fg) (p:=λ_=>True) (λcs h=>by
  obtain⟨_,_,rfl,h1,h⟩:=Ia (xn h);obtain⟨_,_,rfl,h2,h⟩:=Ia h;obtain⟨_,_,rfl,h3,h⟩:=Ia h;obtain⟨_,_,rfl,h4,h⟩:=Ia h;obtain rfl:=yn h;obtain⟨a,b,rfl,-,-⟩:=QC h1;obtain⟨x2,rfl,-⟩:=Cp h2;obtain⟨x3,rfl,-⟩:=Cp h3;obtain⟨x4,rfl,-⟩:=Cp h4;exact⟨⟨⟨a,b⟩,x2,x3,x4⟩,rfl,trivial⟩) h4
 exact⟨⟨s,⟨a,b⟩,⟨c,d⟩,r⟩,rfl,by grind⟩
theorem C7{d:D}(h:LookV true shL d):∃x:GLaw,d=Bb x/\NL x/\∀t∈x.Tables,t.Rows.length<=1125899906842624:=by
 obtain⟨ds,h,rfl⟩:=h;obtain⟨_,_,rfl,h1,h⟩:=Ia (xn h);obtain⟨_,_,rfl,h2,h⟩:=Ia h;obtain⟨_,_,rfl,h3,h⟩:=Ia h;obtain rfl:=yn h;obtain⟨en,rfl,-⟩:=Us (e:=ug) (p:=λ_=>True) (λcs h=>by
  obtain⟨_,_,rfl,h1,h⟩:=Ia (xn h);obtain⟨_,_,rfl,h2,h⟩:=Ia h;obtain rfl:=yn h;obtain⟨s,rfl⟩:=lA h1;obtain⟨m,rfl,-⟩:=Us (e:=vg) (p:=λ_=>True) (λcs h=>by obtain⟨s,rfl⟩:=lA h;exact⟨s,rfl,trivial⟩) h2;exact⟨⟨s,m⟩,rfl,trivial⟩) h1
 obtain⟨tb,rfl,ht⟩:=Us (λ_=>dec_T) h2;obtain⟨sc,rfl,hs⟩:=Us (λ_=>dec_S) h3;exact⟨⟨en,tb,sc⟩,rfl,hs,ht⟩
theorem dec_L{d:D}(h:LookV true shL d):∃x:GLaw,d=Bb x/\NL x:=by
 grind[C7]
end Go.Proofs.Dev
set_option linter.unusedSimpArgs false
set_option linter.unusedVariables false
set_option maxHeartbeats 1000000
set_option maxRecDepth 10000
namespace Go.Proofs.Dev
open Go Go.Tm
abbrev shV:Sh:=.cat [.int .i64,.int .i64,.int .i64]
abbrev shK:Sh:=.cat [.int .i64,.sl 3 true shV,.sl 1 false (.sl 3 true shV)]
theorem n5{cs:List D}(h:Km shV cs):∃x:GValue,Xq true cs=ra x/\True:=by
 obtain⟨_,_,rfl,h1,h⟩:=Ia (xn h);obtain⟨_,_,rfl,h2,h⟩:=Ia h;obtain⟨_,_,rfl,h3,h⟩:=Ia h;obtain rfl:=yn h;obtain⟨x1,rfl,-⟩:=Cp h1;obtain⟨x2,rfl,-⟩:=Cp h2;obtain⟨x3,rfl,-⟩:=Cp h3;exact⟨⟨x1,x2,x3⟩,rfl,trivial⟩
theorem D7{cs:List D}(h:Km (.sl 3 true shV) cs):∃x:List GValue,Xq false cs=jb x/\True:=by
 obtain⟨l,rfl,-⟩:=Us (λ_=>n5) h;exact⟨l,rfl,trivial⟩
theorem dec_K{d:D}(h:LookV true shK d):∃x:GCase,d=kp x:=by
 obtain⟨ds,h,rfl⟩:=h;obtain⟨_,_,rfl,h1,h⟩:=Ia (xn h);obtain⟨_,_,rfl,h2,h⟩:=Ia h;obtain⟨_,_,rfl,h3,h⟩:=Ia h;obtain rfl:=yn h;obtain⟨x1,rfl,-⟩:=Cp h1;obtain⟨l,rfl,-⟩:=Us (λ_=>n5) h2;obtain⟨m,rfl,-⟩:=Us (λ_=>D7) h3;exact⟨⟨x1,l,m⟩,rfl⟩
end Go.Proofs.Dev
set_option linter.unusedSimpArgs false
set_option linter.unusedVariables false
set_option maxHeartbeats 1000000
set_option maxRecDepth 10000
namespace Go.Proofs.Dev
open Go Go.Tm
abbrev shA2:Sh:=.cat [.int .i64,.int .i64]
theorem B7{d:D}(h:LookV true shA2 d):∃x:GA2,d=VF x:=by
 obtain⟨ds,h,rfl⟩:=h;obtain⟨_,_,rfl,h1,h⟩:=Ia (xn h);obtain⟨_,_,rfl,h2,h⟩:=Ia h;obtain rfl:=yn h;obtain⟨x1,rfl,-⟩:=Cp h1;obtain⟨x2,rfl,-⟩:=Cp h2;exact⟨⟨x1,x2⟩,rfl⟩
end Go.Proofs.Dev
set_option linter.unusedVariables false
namespace Go.Proofs.Dev
open Go Go.Tm
theorem law_call(a b c:D) (h1:LookV true shL a) (h2:LookV true shA2 b) (h3:LookV true shK c):CallT Tryz.prog 6 [a,b,c] [] λx _=>x=.v (.bool true):=by
 obtain⟨l,rfl,hl⟩:=dec_L h1;obtain⟨x,rfl⟩:=B7 h2;obtain⟨y,rfl⟩:=dec_K h3;exact(Qp (Dx nI hl x y) []).mono λ_ _ h=>h.1
end Go.Proofs.Dev
