/-
  The contract of the function of the statement: for all arguments of its types.
-/
import Derived.Test.YtmhfebelfmgckaaGreatDoorQ8
open Bool renaming true->a38
open Go.IntKind renaming i64->b!
set_option linter.all false
set_option maxHeartbeats 1000000
set_option maxRecDepth 10000
set_option linter.unusedSimpArgs false
set_option linter.unusedVariables false
set_option maxHeartbeats 1000000
set_option maxRecDepth 10000
namespace Go.Proofs.Dev
open Go Go.Tm
variable {α:Type}{e:α->D}{p:α->Prop}{S B:Nat}{A:Bool}{s:Sh}{l:List Sh}{cs:List D}
theorem mc{ds:List D}(h:Wp (.int b!) ds):∃n:Int,ds=[.v (.int b! n)]/\-9223372036854775808<=n/\n<=9223372036854775807:=by
 simp only[Wp]at h;obtain⟨n,rfl,hw⟩:=h;refine⟨n,rfl,?_⟩;simp[Lit.wf]at hw;have h1:IntKind.i64.min = -9223372036854775808:=p5
 omega
theorem zH{ds:List D}(h:Wp .str ds):∃n:ByteArray,ds=[.v (.string n)]:=by
 simp only[Wp]at h
 grind
theorem KT{ds:List D}(he:∀cs,Wp s cs->∃x,Ev A cs=e x/\p x) (h:Wp (.sl S B A s) ds):∃l:List α,ds=[.sl S (l.map e)]/\l.length*B<=140737488355328/\∀x∈l,p x:=by
 simp only[Wp]at h;obtain⟨l,rfl,hn,hl⟩:=h;have:∀l:List D,(∀d∈l,∃cs,Wp s cs/\d=Ev A cs)->∃r:List α,l=r.map e/\∀x∈r,p x:=by
  intro l
  induction l with
  |nil=>simp
  |cons d l ih=>
   intro h;obtain⟨r,rfl,hr⟩:=ih λd hd=>h d o4;obtain⟨cs,h1,rfl⟩:=h d o0;obtain⟨x,h2,h3⟩:=he cs h1;refine⟨x::r,l5,λy hy=>?_⟩
   grind
 obtain⟨r,rfl,hr⟩:=this l hl
 grind
theorem iz{ds:List D}(he:∀cs,Wp s cs->∃x,Ev A cs=e x/\p x) (h:Wp (.sl S B A s) ds):∃l:List α,ds=[.sl S (l.map e)]/\∀x∈l,p x:=by
 obtain⟨r,h1,-,h2⟩:=KT he h
 grind
theorem Di{ds:List D}(h:TA [] ds):ds=[]:=by simpa only[TA] using h
theorem ta{ds:List D}(h:TA (s::l) ds):∃a b,ds=a++b/\Wp s a/\TA l b:=by simpa only[TA] using h
theorem Ai{ds:List D}(h:Wp (.cat l) ds):TA l ds:=by simpa only[Wp] using h
theorem yH{ds:List D}(h:Wp (.cat [.int b!,.int b!]) ds):∃n m:Int,ds=[.v (.int b! n),.v (.int b! m)]/\(-9223372036854775808<=n/\n<=9223372036854775807)/\(-9223372036854775808<=m/\m<=9223372036854775807):=by
 obtain⟨a,b,rfl,h1,h⟩:=ta (Ai h);obtain⟨c,d,rfl,h2,h⟩:=ta h;obtain rfl:=Di h;obtain⟨n,rfl,hn⟩:=mc h1;obtain⟨m,rfl,hm⟩:=mc h2
 grind
abbrev shF:Sh:=.cat [.str,.cat [.int b!,.int b!]]
abbrev shN:Sh:=.cat [.int b!,.int b!]
abbrev shR:Sh:=.cat [.str,.int b!,.int b!,.int b!,.cat [.int b!,.int b!],.sl 2 16 a38 shN,.sl 2 16 a38 shN,.str]
abbrev shS:Sh:=.cat [.str,.int b!,.sl 3 32 a38 shF,.sl 3 32 a38 shF,.sl 9 120 a38 shR]
abbrev shT:Sh:=.cat [.str,.cat [.int b!,.int b!],.cat [.int b!,.int b!],.sl 5 40 a38 (.cat [.cat [.int b!,.int b!],.int b!,.int b!,.int b!])]
abbrev shL:Sh:=.cat [.sl 2 40 a38 (.cat [.str,.sl 1 16 false .str]),.sl 6 72 a38 shT,.sl 5 96 a38 shS]
theorem aX0(h:Wp shN cs):∃x:fr,Ev a38 cs=Xi x/\cc x:=by
 obtain⟨n,m,rfl,hn,hm⟩:=yH h;exact⟨⟨n,m⟩,rfl,by unfold cc;omega⟩
theorem aX1(h:Wp shF cs):∃x:mu,Ev a38 cs=rf x/\True:=by
 obtain⟨a,b,rfl,h1,h⟩:=ta (Ai h);obtain⟨c,d,rfl,h2,h⟩:=ta h;obtain rfl:=Di h;obtain⟨s,rfl⟩:=zH h1;obtain⟨n,m,rfl,hn,hm⟩:=yH h2;exact⟨⟨s,⟨n,m⟩⟩,rfl,trivial⟩
theorem cn1(h:Wp shR cs):∃x:kv,Ev a38 cs=Yg x/\(∀n∈x.ak,cc n)/\∀n∈x.Value,cc n:=by
 obtain⟨_,_,rfl,h1,h⟩:=ta (Ai h);obtain⟨_,_,rfl,h2,h⟩:=ta h;obtain⟨_,_,rfl,h3,h⟩:=ta h;obtain⟨_,_,rfl,h4,h⟩:=ta h;obtain⟨_,_,rfl,h5,h⟩:=ta h;obtain⟨_,_,rfl,h6,h⟩:=ta h;obtain⟨_,_,rfl,h7,h⟩:=ta h;obtain⟨_,_,rfl,h8,h⟩:=ta h;obtain rfl:=Di h;obtain⟨s,rfl⟩:=zH h1;obtain⟨x2,rfl,-⟩:=mc h2;obtain⟨x3,rfl,-⟩:=mc h3;obtain⟨x4,rfl,-⟩:=mc h4;obtain⟨n,m,rfl,-,-⟩:=yH h5;obtain⟨g,rfl,hg⟩:=iz (λ_=>aX0) h6;obtain⟨v,rfl,hv⟩:=iz (λ_=>aX0) h7;obtain⟨t,rfl⟩:=zH h8;exact⟨⟨s,x2,x3,x4,⟨n,m⟩,g,v,t⟩,rfl,hg,hv⟩
theorem cn0(h:Wp shS cs):∃x:ek,Ev a38 cs=sf x/\∀r∈x.f,(∀n∈r.ak,cc n)/\∀n∈r.Value,cc n:=by
 obtain⟨_,_,rfl,h1,h⟩:=ta (Ai h);obtain⟨_,_,rfl,h2,h⟩:=ta h;obtain⟨_,_,rfl,h3,h⟩:=ta h;obtain⟨_,_,rfl,h4,h⟩:=ta h;obtain⟨_,_,rfl,h5,h⟩:=ta h;obtain rfl:=Di h;obtain⟨s,rfl⟩:=zH h1;obtain⟨x2,rfl,-⟩:=mc h2;obtain⟨a,rfl,-⟩:=iz (λ_=>aX1) h3;obtain⟨b,rfl,-⟩:=iz (λ_=>aX1) h4;obtain⟨r,rfl,hr⟩:=iz (λ_=>cn1) h5;exact⟨⟨s,x2,a,b,r⟩,rfl,hr⟩
theorem cm9(h:Wp shT cs):∃x:po,Ev a38 cs=xj x/\x.Rows.length<=1125899906842624:=by
 obtain⟨_,_,rfl,h1,h⟩:=ta (Ai h);obtain⟨_,_,rfl,h2,h⟩:=ta h;obtain⟨_,_,rfl,h3,h⟩:=ta h;obtain⟨_,_,rfl,h4,h⟩:=ta h;obtain rfl:=Di h;obtain⟨s,rfl⟩:=zH h1;obtain⟨a,b,rfl,-,-⟩:=yH h2;obtain⟨c,d,rfl,-,-⟩:=yH h3;obtain⟨r,rfl,hr,-⟩:=KT (e:=Qv) (p:=λ_=>True) (λcs h=>by
  obtain⟨_,_,rfl,h1,h⟩:=ta (Ai h);obtain⟨_,_,rfl,h2,h⟩:=ta h;obtain⟨_,_,rfl,h3,h⟩:=ta h;obtain⟨_,_,rfl,h4,h⟩:=ta h;obtain rfl:=Di h;obtain⟨a,b,rfl,-,-⟩:=yH h1;obtain⟨x2,rfl,-⟩:=mc h2;obtain⟨x3,rfl,-⟩:=mc h3;obtain⟨x4,rfl,-⟩:=mc h4;exact⟨⟨⟨a,b⟩,x2,x3,x4⟩,rfl,trivial⟩) h4
 exact⟨⟨s,⟨a,b⟩,⟨c,d⟩,r⟩,rfl,o4⟩
theorem bp7{d:D}(h:LookV a38 shL d):∃x:cb,d=Qu x/\aw8 x/\∀t∈x.Tables,t.Rows.length<=1125899906842624:=by
 obtain⟨ds,h,rfl⟩:=h;obtain⟨_,_,rfl,h1,h⟩:=ta (Ai h);obtain⟨_,_,rfl,h2,h⟩:=ta h;obtain⟨_,_,rfl,h3,h⟩:=ta h;obtain rfl:=Di h;obtain⟨en,rfl,-⟩:=iz (e:=ft) (p:=λ_=>True) (λcs h=>by
  obtain⟨_,_,rfl,h1,h⟩:=ta (Ai h);obtain⟨_,_,rfl,h2,h⟩:=ta h;obtain rfl:=Di h;obtain⟨s,rfl⟩:=zH h1;obtain⟨m,rfl,-⟩:=iz (e:=OD) (p:=λ_=>True) (λcs h=>by obtain⟨s,rfl⟩:=zH h;exact⟨s,rfl,trivial⟩) h2;exact⟨⟨s,m⟩,rfl,trivial⟩) h1
 obtain⟨tb,rfl,ht⟩:=iz (λ_=>cm9) h2;obtain⟨sc,rfl,hs⟩:=iz (λ_=>cn0) h3;exact⟨⟨en,tb,sc⟩,rfl,hs,ht⟩
end Go.Proofs.Dev
set_option linter.unusedSimpArgs false
set_option linter.unusedVariables false
set_option maxHeartbeats 1000000
set_option maxRecDepth 10000
namespace Go.Proofs.Dev
open Go Go.Tm
variable {cs:List D}
abbrev shX:Sh:=.cat [.int b!,.int b!,.int b!,.cat [.int b!,.int b!,.int b!],.cat [.int b!,.int b!],.int b!]
abbrev shH:Sh:=.cat [.int b!,.int b!,.int b!,.sl 9 72 a38 shX]
theorem cm8(h:Wp shX cs):∃x:ka,Ev a38 cs=Kd x/\True:=by
 obtain⟨_,_,rfl,h1,h⟩:=ta (Ai h);obtain⟨_,_,rfl,h2,h⟩:=ta h;obtain⟨_,_,rfl,h3,h⟩:=ta h;obtain⟨_,_,rfl,h4,h⟩:=ta h;obtain⟨_,_,rfl,h5,h⟩:=ta h;obtain⟨_,_,rfl,h6,h⟩:=ta h;obtain rfl:=Di h;obtain⟨x1,rfl,-⟩:=mc h1;obtain⟨x2,rfl,-⟩:=mc h2;obtain⟨x3,rfl,-⟩:=mc h3;obtain⟨_,_,rfl,g1,h⟩:=ta (Ai h4);obtain⟨_,_,rfl,g2,h⟩:=ta h;obtain⟨_,_,rfl,g3,h⟩:=ta h;obtain rfl:=Di h;obtain⟨y1,rfl,-⟩:=mc g1;obtain⟨y2,rfl,-⟩:=mc g2;obtain⟨y3,rfl,-⟩:=mc g3;obtain⟨a,b,rfl,-,-⟩:=yH h5;obtain⟨x6,rfl,-⟩:=mc h6;exact⟨⟨x1,x2,x3,⟨y1,y2,y3⟩,⟨a,b⟩,x6⟩,rfl,trivial⟩
theorem bp8(h:Wp shH cs):∃x:ml,Ev a38 cs=Fz x/\x.aa.length*72<=140737488355328:=by
 obtain⟨_,_,rfl,h1,h⟩:=ta (Ai h);obtain⟨_,_,rfl,h2,h⟩:=ta h;obtain⟨_,_,rfl,h3,h⟩:=ta h;obtain⟨_,_,rfl,h4,h⟩:=ta h;obtain rfl:=Di h;obtain⟨x1,rfl,-⟩:=mc h1;obtain⟨x2,rfl,-⟩:=mc h2;obtain⟨x3,rfl,-⟩:=mc h3;obtain⟨l,rfl,hl,-⟩:=KT (λ_=>cm8) h4;exact⟨⟨x1,x2,x3,l⟩,rfl,hl⟩
end Go.Proofs.Dev
set_option linter.unusedSimpArgs false
set_option linter.unusedVariables false
set_option maxHeartbeats 1000000
set_option maxRecDepth 10000
namespace Go.Proofs.Dev
open Go Go.Tm
abbrev shC:Sh:=.cat [.int b!,.int b!,.int b!,.int b!,.int b!,.int b!,.int b!,.cat [.int b!,.sl 1 8 false (.int b!)]]
theorem cn4{d:D}(h:LookV a38 shC d):∃x:ma,d=vf x:=by
 obtain⟨ds,h,rfl⟩:=h;obtain⟨_,_,rfl,h1,h⟩:=ta (Ai h);obtain⟨_,_,rfl,h2,h⟩:=ta h;obtain⟨_,_,rfl,h3,h⟩:=ta h;obtain⟨_,_,rfl,h4,h⟩:=ta h;obtain⟨_,_,rfl,h5,h⟩:=ta h;obtain⟨_,_,rfl,h6,h⟩:=ta h;obtain⟨_,_,rfl,h7,h⟩:=ta h;obtain⟨_,_,rfl,h8,h⟩:=ta h;obtain rfl:=Di h;obtain⟨x1,rfl,-⟩:=mc h1;obtain⟨x2,rfl,-⟩:=mc h2;obtain⟨x3,rfl,-⟩:=mc h3;obtain⟨x4,rfl,-⟩:=mc h4;obtain⟨x5,rfl,-⟩:=mc h5;obtain⟨x6,rfl,-⟩:=mc h6;obtain⟨x7,rfl,-⟩:=mc h7;obtain⟨_,_,rfl,h9,h⟩:=ta (Ai h8);obtain⟨_,_,rfl,h10,h⟩:=ta h;obtain rfl:=Di h;obtain⟨x9,rfl,-⟩:=mc h9;obtain⟨l,rfl,-⟩:=iz (e:=da) (p:=λ_=>True) (λcs h=>by obtain⟨n,rfl,-⟩:=mc h;exact⟨n,rfl,trivial⟩) h10;exact⟨⟨x1,x2,x3,x4,x5,x6,x7,⟨x9,l⟩⟩,rfl⟩
end Go.Proofs.Dev
set_option linter.unusedSimpArgs false
set_option linter.unusedVariables false
set_option maxHeartbeats 1000000
set_option maxRecDepth 10000
namespace Go.Proofs.Dev
open Go Go.Tm
variable {cs:List D}
abbrev shO:Sh:=.cat [.int b!,.int b!,.int b!,.int b!]
abbrev shP:Sh:=.cat [.int b!,.int b!,.int b!,.int b!,.int b!,.int b!,.int b!]
abbrev shA:Sh:=.cat [shH,.sl 4 32 a38 shO,.sl 7 56 a38 shP,.int b!,.int b!]
theorem cn3(h:Wp shO cs):∃x:hO,Ev a38 cs=fb x/\True:=by
 obtain⟨_,_,rfl,h1,h⟩:=ta (Ai h);obtain⟨_,_,rfl,h2,h⟩:=ta h;obtain⟨_,_,rfl,h3,h⟩:=ta h;obtain⟨_,_,rfl,h4,h⟩:=ta h;obtain rfl:=Di h;obtain⟨x1,rfl,-⟩:=mc h1;obtain⟨x2,rfl,-⟩:=mc h2;obtain⟨x3,rfl,-⟩:=mc h3;obtain⟨x4,rfl,-⟩:=mc h4;exact⟨⟨x1,x2,x3,x4⟩,rfl,trivial⟩
theorem cn2(h:Wp shP cs):∃x:oe,Ev a38 cs=ef x/\True:=by
 obtain⟨_,_,rfl,h1,h⟩:=ta (Ai h);obtain⟨_,_,rfl,h2,h⟩:=ta h;obtain⟨_,_,rfl,h3,h⟩:=ta h;obtain⟨_,_,rfl,h4,h⟩:=ta h;obtain⟨_,_,rfl,h5,h⟩:=ta h;obtain⟨_,_,rfl,h6,h⟩:=ta h;obtain⟨_,_,rfl,h7,h⟩:=ta h;obtain rfl:=Di h;obtain⟨x1,rfl,-⟩:=mc h1;obtain⟨x2,rfl,-⟩:=mc h2;obtain⟨x3,rfl,-⟩:=mc h3;obtain⟨x4,rfl,-⟩:=mc h4;obtain⟨x5,rfl,-⟩:=mc h5;obtain⟨x6,rfl,-⟩:=mc h6;obtain⟨x7,rfl,-⟩:=mc h7;exact⟨⟨x1,x2,x3,x4,x5,x6,x7⟩,rfl,trivial⟩
theorem cn6{d:D}(h:LookV a38 shA d):∃x:na,d=nk x:=by
 obtain⟨ds,h,rfl⟩:=h;obtain⟨_,_,rfl,h0,h⟩:=ta (Ai h);obtain⟨_,_,rfl,h1,h⟩:=ta h;obtain⟨_,_,rfl,h2,h⟩:=ta h;obtain⟨_,_,rfl,h3,h⟩:=ta h;obtain⟨_,_,rfl,h4,h⟩:=ta h;obtain rfl:=Di h;obtain⟨x,hx,-⟩:=bp8 h0;obtain⟨l,rfl,-⟩:=iz (λ_=>cn3) h1;obtain⟨q,rfl,-⟩:=iz (λ_=>cn2) h2;obtain⟨x3,rfl,-⟩:=mc h3;obtain⟨x4,rfl,-⟩:=mc h4;injection hx with hx;subst hx;exact⟨⟨x,l,q,x3,x4⟩,rfl⟩
end Go.Proofs.Dev
set_option linter.unusedSimpArgs false
set_option linter.unusedVariables false
namespace Go.Proofs.Dev
open Go Go.Tm
abbrev shB:Sh:=.cat [.int b!,.int b!]
theorem cn5{d:D}(h:LookV a38 shB d):∃x:b9,d=kh x:=by
 obtain⟨ds,h,rfl⟩:=h;obtain⟨_,_,rfl,h1,h⟩:=ta (Ai h);obtain⟨_,_,rfl,h2,h⟩:=ta h;obtain rfl:=Di h;obtain⟨x1,rfl,-⟩:=mc h1;obtain⟨x2,rfl,-⟩:=mc h2;exact⟨⟨x1,x2⟩,rfl⟩
end Go.Proofs.Dev
set_option linter.unusedVariables false
namespace Go.Proofs.Dev
open Go Go.Tm
def law_call(a b c d:D) (h1:LookV a38 shL a) (h2:LookV a38 shC b) (h3:LookV a38 shA c) (h4:LookV a38 shB d):CallT Tryz.prog 4 [a,b,c,d] [] λx _=>x=.v (.bool a38):=by
 obtain⟨l,rfl,hl,hz⟩:=bp7 h1;obtain⟨x,rfl⟩:=cn4 h2;obtain⟨y,rfl⟩:=cn6 h3;obtain⟨z,rfl⟩:=cn5 h4;exact(SB (cE rQ hz hl x y z) []).mono λ_ _ h=>h.1
end Go.Proofs.Dev
