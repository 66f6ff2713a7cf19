/-
  The contract of the function of the statement: for all arguments of its types.
-/
import Derived.Test.YtmhfebelfmgckaaGreatDoorQ8
open Bool renaming true->a35
open Go.IntKind renaming i64->b!
set_option linter.all false
set_option maxHeartbeats 1000000
set_option maxRecDepth 10000
set_option linter.unusedSimpArgs false
set_option linter.unusedVariables false
set_option maxHeartbeats 1000000
set_option maxRecDepth 10000
namespace Go.Proofs.Dev
open Go Go.Tm
variable {α:Type}{e:α->D}{p:α->Prop}{S B:Nat}{A:Bool}{s:Sh}{l:List Sh}{cs:List D}
theorem Ec{ds:List D}(h:Mp (.int b!) ds):∃n:Int,ds=[.v (.int b! n)]/\-9223372036854775808<=n/\n<=9223372036854775807:=by
 simp only[Mp]at h;obtain⟨n,rfl,hw⟩:=h;refine⟨n,rfl,?_⟩;simp[Lit.wf]at hw;have h1:IntKind.i64.min = -9223372036854775808:=o4
 omega
theorem ZG{ds:List D}(h:Mp .str ds):∃n:ByteArray,ds=[.v (.string n)]:=by
 simp only[Mp]at h
 grind
theorem TS{ds:List D}(he:∀cs,Mp s cs->∃x,zv A cs=e x/\p x) (h:Mp (.sl S B A s) ds):∃l:List α,ds=[.sl S (l.map e)]/\l.length*B<=140737488355328/\∀x∈l,p x:=by
 simp only[Mp]at h;obtain⟨l,rfl,hn,hl⟩:=h;have:∀l:List D,(∀d∈l,∃cs,Mp s cs/\d=zv A cs)->∃r:List α,l=r.map e/\∀x∈r,p x:=by
  intro l
  induction l with
  |nil=>simp
  |cons d l ih=>
   intro h;obtain⟨r,rfl,hr⟩:=ih λd hd=>h d o0;obtain⟨cs,h1,rfl⟩:=h d l5;obtain⟨x,h2,h3⟩:=he cs h1;refine⟨x::r,l4,λy hy=>?_⟩
   grind
 obtain⟨r,rfl,hr⟩:=this l hl
 grind
theorem Py{ds:List D}(he:∀cs,Mp s cs->∃x,zv A cs=e x/\p x) (h:Mp (.sl S B A s) ds):∃l:List α,ds=[.sl S (l.map e)]/\∀x∈l,p x:=by
 obtain⟨r,h1,-,h2⟩:=TS he h
 grind
theorem vj{ds:List D}(h:KA [] ds):ds=[]:=by simpa only[KA] using h
theorem ta{ds:List D}(h:KA (s::l) ds):∃a b,ds=a++b/\Mp s a/\KA l b:=by simpa only[KA] using h
theorem uj{ds:List D}(h:Mp (.cat l) ds):KA l ds:=by simpa only[Mp] using h
theorem YG{ds:List D}(h:Mp (.cat [.int b!,.int b!]) ds):∃n m:Int,ds=[.v (.int b! n),.v (.int b! m)]/\(-9223372036854775808<=n/\n<=9223372036854775807)/\(-9223372036854775808<=m/\m<=9223372036854775807):=by
 obtain⟨a,b,rfl,h1,h⟩:=ta (uj h);obtain⟨c,d,rfl,h2,h⟩:=ta h;obtain rfl:=vj h;obtain⟨n,rfl,hn⟩:=Ec h1;obtain⟨m,rfl,hm⟩:=Ec h2
 grind
abbrev shF:Sh:=.cat [.str,.cat [.int b!,.int b!]]
abbrev shN:Sh:=.cat [.int b!,.int b!]
abbrev shR:Sh:=.cat [.str,.int b!,.int b!,.int b!,.cat [.int b!,.int b!],.sl 2 16 a35 shN,.sl 2 16 a35 shN,.str]
abbrev shS:Sh:=.cat [.str,.int b!,.sl 3 32 a35 shF,.sl 3 32 a35 shF,.sl 9 120 a35 shR]
abbrev shT:Sh:=.cat [.str,.cat [.int b!,.int b!],.cat [.int b!,.int b!],.sl 5 40 a35 (.cat [.cat [.int b!,.int b!],.int b!,.int b!,.int b!])]
abbrev shL:Sh:=.cat [.sl 2 40 a35 (.cat [.str,.sl 1 16 false .str]),.sl 6 72 a35 shT,.sl 5 96 a35 shS]
theorem aW3(h:Mp shN cs):∃x:fr,zv a35 cs=Oi x/\Zb x:=by
 obtain⟨n,m,rfl,hn,hm⟩:=YG h;exact⟨⟨n,m⟩,rfl,by unfold Zb;omega⟩
theorem aW4(h:Mp shF cs):∃x:ml,zv a35 cs=nf x/\True:=by
 obtain⟨a,b,rfl,h1,h⟩:=ta (uj h);obtain⟨c,d,rfl,h2,h⟩:=ta h;obtain rfl:=vj h;obtain⟨s,rfl⟩:=ZG h1;obtain⟨n,m,rfl,hn,hm⟩:=YG h2;exact⟨⟨s,⟨n,m⟩⟩,rfl,trivial⟩
theorem cl6(h:Mp shR cs):∃x:ke,zv a35 cs=Ug x/\(∀n∈x.ag,Zb n)/\∀n∈x.Value,Zb n:=by
 obtain⟨_,_,rfl,h1,h⟩:=ta (uj h);obtain⟨_,_,rfl,h2,h⟩:=ta h;obtain⟨_,_,rfl,h3,h⟩:=ta h;obtain⟨_,_,rfl,h4,h⟩:=ta h;obtain⟨_,_,rfl,h5,h⟩:=ta h;obtain⟨_,_,rfl,h6,h⟩:=ta h;obtain⟨_,_,rfl,h7,h⟩:=ta h;obtain⟨_,_,rfl,h8,h⟩:=ta h;obtain rfl:=vj h;obtain⟨s,rfl⟩:=ZG h1;obtain⟨x2,rfl,-⟩:=Ec h2;obtain⟨x3,rfl,-⟩:=Ec h3;obtain⟨x4,rfl,-⟩:=Ec h4;obtain⟨n,m,rfl,-,-⟩:=YG h5;obtain⟨g,rfl,hg⟩:=Py (λ_=>aW3) h6;obtain⟨v,rfl,hv⟩:=Py (λ_=>aW3) h7;obtain⟨t,rfl⟩:=ZG h8;exact⟨⟨s,x2,x3,x4,⟨n,m⟩,g,v,t⟩,rfl,hg,hv⟩
theorem cl5(h:Mp shS cs):∃x:ek,zv a35 cs=pf x/\∀r∈x.f,(∀n∈r.ag,Zb n)/\∀n∈r.Value,Zb n:=by
 obtain⟨_,_,rfl,h1,h⟩:=ta (uj h);obtain⟨_,_,rfl,h2,h⟩:=ta h;obtain⟨_,_,rfl,h3,h⟩:=ta h;obtain⟨_,_,rfl,h4,h⟩:=ta h;obtain⟨_,_,rfl,h5,h⟩:=ta h;obtain rfl:=vj h;obtain⟨s,rfl⟩:=ZG h1;obtain⟨x2,rfl,-⟩:=Ec h2;obtain⟨a,rfl,-⟩:=Py (λ_=>aW4) h3;obtain⟨b,rfl,-⟩:=Py (λ_=>aW4) h4;obtain⟨r,rfl,hr⟩:=Py (λ_=>cl6) h5;exact⟨⟨s,x2,a,b,r⟩,rfl,hr⟩
theorem cl4(h:Mp shT cs):∃x:oe,zv a35 cs=pj x/\x.Rows.length<=1125899906842624:=by
 obtain⟨_,_,rfl,h1,h⟩:=ta (uj h);obtain⟨_,_,rfl,h2,h⟩:=ta h;obtain⟨_,_,rfl,h3,h⟩:=ta h;obtain⟨_,_,rfl,h4,h⟩:=ta h;obtain rfl:=vj h;obtain⟨s,rfl⟩:=ZG h1;obtain⟨a,b,rfl,-,-⟩:=YG h2;obtain⟨c,d,rfl,-,-⟩:=YG h3;obtain⟨r,rfl,hr,-⟩:=TS (e:=Lv) (p:=λ_=>True) (λcs h=>by
  obtain⟨_,_,rfl,h1,h⟩:=ta (uj h);obtain⟨_,_,rfl,h2,h⟩:=ta h;obtain⟨_,_,rfl,h3,h⟩:=ta h;obtain⟨_,_,rfl,h4,h⟩:=ta h;obtain rfl:=vj h;obtain⟨a,b,rfl,-,-⟩:=YG h1;obtain⟨x2,rfl,-⟩:=Ec h2;obtain⟨x3,rfl,-⟩:=Ec h3;obtain⟨x4,rfl,-⟩:=Ec h4;exact⟨⟨⟨a,b⟩,x2,x3,x4⟩,rfl,trivial⟩) h4
 exact⟨⟨s,⟨a,b⟩,⟨c,d⟩,r⟩,rfl,o0⟩
theorem bp0{d:D}(h:LookV a35 shL d):∃x:cb,d=Kv x/\aw8 x/\∀t∈x.Tables,t.Rows.length<=1125899906842624:=by
 obtain⟨ds,h,rfl⟩:=h;obtain⟨_,_,rfl,h1,h⟩:=ta (uj h);obtain⟨_,_,rfl,h2,h⟩:=ta h;obtain⟨_,_,rfl,h3,h⟩:=ta h;obtain rfl:=vj h;obtain⟨en,rfl,-⟩:=Py (e:=Vs) (p:=λ_=>True) (λcs h=>by
  obtain⟨_,_,rfl,h1,h⟩:=ta (uj h);obtain⟨_,_,rfl,h2,h⟩:=ta h;obtain rfl:=vj h;obtain⟨s,rfl⟩:=ZG h1;obtain⟨m,rfl,-⟩:=Py (e:=vD) (p:=λ_=>True) (λcs h=>by obtain⟨s,rfl⟩:=ZG h;exact⟨s,rfl,trivial⟩) h2;exact⟨⟨s,m⟩,rfl,trivial⟩) h1
 obtain⟨tb,rfl,ht⟩:=Py (λ_=>cl4) h2;obtain⟨sc,rfl,hs⟩:=Py (λ_=>cl5) h3;exact⟨⟨en,tb,sc⟩,rfl,hs,ht⟩
end Go.Proofs.Dev
set_option linter.unusedSimpArgs false
set_option linter.unusedVariables false
set_option maxHeartbeats 1000000
set_option maxRecDepth 10000
namespace Go.Proofs.Dev
open Go Go.Tm
variable {cs:List D}
abbrev shX:Sh:=.cat [.int b!,.int b!,.int b!,.cat [.int b!,.int b!,.int b!],.cat [.int b!,.int b!],.int b!]
abbrev shH:Sh:=.cat [.int b!,.int b!,.int b!,.sl 9 72 a35 shX]
theorem cl3(h:Mp shX cs):∃x:kv,zv a35 cs=ue x/\True:=by
 obtain⟨_,_,rfl,h1,h⟩:=ta (uj h);obtain⟨_,_,rfl,h2,h⟩:=ta h;obtain⟨_,_,rfl,h3,h⟩:=ta h;obtain⟨_,_,rfl,h4,h⟩:=ta h;obtain⟨_,_,rfl,h5,h⟩:=ta h;obtain⟨_,_,rfl,h6,h⟩:=ta h;obtain rfl:=vj h;obtain⟨x1,rfl,-⟩:=Ec h1;obtain⟨x2,rfl,-⟩:=Ec h2;obtain⟨x3,rfl,-⟩:=Ec h3;obtain⟨_,_,rfl,g1,h⟩:=ta (uj h4);obtain⟨_,_,rfl,g2,h⟩:=ta h;obtain⟨_,_,rfl,g3,h⟩:=ta h;obtain rfl:=vj h;obtain⟨y1,rfl,-⟩:=Ec g1;obtain⟨y2,rfl,-⟩:=Ec g2;obtain⟨y3,rfl,-⟩:=Ec g3;obtain⟨a,b,rfl,-,-⟩:=YG h5;obtain⟨x6,rfl,-⟩:=Ec h6;exact⟨⟨x1,x2,x3,⟨y1,y2,y3⟩,⟨a,b⟩,x6⟩,rfl,trivial⟩
theorem bp1(h:Mp shH cs):∃x:mu,zv a35 cs=pz x/\x.ab.length*72<=140737488355328:=by
 obtain⟨_,_,rfl,h1,h⟩:=ta (uj h);obtain⟨_,_,rfl,h2,h⟩:=ta h;obtain⟨_,_,rfl,h3,h⟩:=ta h;obtain⟨_,_,rfl,h4,h⟩:=ta h;obtain rfl:=vj h;obtain⟨x1,rfl,-⟩:=Ec h1;obtain⟨x2,rfl,-⟩:=Ec h2;obtain⟨x3,rfl,-⟩:=Ec h3;obtain⟨l,rfl,hl,-⟩:=TS (λ_=>cl3) h4;exact⟨⟨x1,x2,x3,l⟩,rfl,hl⟩
end Go.Proofs.Dev
set_option linter.unusedSimpArgs false
set_option linter.unusedVariables false
set_option maxHeartbeats 1000000
set_option maxRecDepth 10000
namespace Go.Proofs.Dev
open Go Go.Tm
abbrev shC:Sh:=.cat [.int b!,.int b!,.int b!,.int b!,.int b!,.int b!,.int b!,.cat [.int b!,.sl 1 8 false (.int b!)]]
theorem cl9{d:D}(h:LookV a35 shC d):∃x:ma,d=Hh x:=by
 obtain⟨ds,h,rfl⟩:=h;obtain⟨_,_,rfl,h1,h⟩:=ta (uj h);obtain⟨_,_,rfl,h2,h⟩:=ta h;obtain⟨_,_,rfl,h3,h⟩:=ta h;obtain⟨_,_,rfl,h4,h⟩:=ta h;obtain⟨_,_,rfl,h5,h⟩:=ta h;obtain⟨_,_,rfl,h6,h⟩:=ta h;obtain⟨_,_,rfl,h7,h⟩:=ta h;obtain⟨_,_,rfl,h8,h⟩:=ta h;obtain rfl:=vj h;obtain⟨x1,rfl,-⟩:=Ec h1;obtain⟨x2,rfl,-⟩:=Ec h2;obtain⟨x3,rfl,-⟩:=Ec h3;obtain⟨x4,rfl,-⟩:=Ec h4;obtain⟨x5,rfl,-⟩:=Ec h5;obtain⟨x6,rfl,-⟩:=Ec h6;obtain⟨x7,rfl,-⟩:=Ec h7;obtain⟨_,_,rfl,h9,h⟩:=ta (uj h8);obtain⟨_,_,rfl,h10,h⟩:=ta h;obtain rfl:=vj h;obtain⟨x9,rfl,-⟩:=Ec h9;obtain⟨l,rfl,-⟩:=Py (e:=da) (p:=λ_=>True) (λcs h=>by obtain⟨n,rfl,-⟩:=Ec h;exact⟨n,rfl,trivial⟩) h10;exact⟨⟨x1,x2,x3,x4,x5,x6,x7,⟨x9,l⟩⟩,rfl⟩
end Go.Proofs.Dev
set_option linter.unusedSimpArgs false
set_option linter.unusedVariables false
set_option maxHeartbeats 1000000
set_option maxRecDepth 10000
namespace Go.Proofs.Dev
open Go Go.Tm
variable {cs:List D}
abbrev shO:Sh:=.cat [.int b!,.int b!,.int b!,.int b!]
abbrev shP:Sh:=.cat [.int b!,.int b!,.int b!,.int b!,.int b!,.int b!,.int b!]
abbrev shA:Sh:=.cat [shH,.sl 4 32 a35 shO,.sl 7 56 a35 shP,.int b!,.int b!]
theorem cl8(h:Mp shO cs):∃x:ic,zv a35 cs=ab x/\True:=by
 obtain⟨_,_,rfl,h1,h⟩:=ta (uj h);obtain⟨_,_,rfl,h2,h⟩:=ta h;obtain⟨_,_,rfl,h3,h⟩:=ta h;obtain⟨_,_,rfl,h4,h⟩:=ta h;obtain rfl:=vj h;obtain⟨x1,rfl,-⟩:=Ec h1;obtain⟨x2,rfl,-⟩:=Ec h2;obtain⟨x3,rfl,-⟩:=Ec h3;obtain⟨x4,rfl,-⟩:=Ec h4;exact⟨⟨x1,x2,x3,x4⟩,rfl,trivial⟩
theorem cl7(h:Mp shP cs):∃x:po,zv a35 cs=Eg x/\True:=by
 obtain⟨_,_,rfl,h1,h⟩:=ta (uj h);obtain⟨_,_,rfl,h2,h⟩:=ta h;obtain⟨_,_,rfl,h3,h⟩:=ta h;obtain⟨_,_,rfl,h4,h⟩:=ta h;obtain⟨_,_,rfl,h5,h⟩:=ta h;obtain⟨_,_,rfl,h6,h⟩:=ta h;obtain⟨_,_,rfl,h7,h⟩:=ta h;obtain rfl:=vj h;obtain⟨x1,rfl,-⟩:=Ec h1;obtain⟨x2,rfl,-⟩:=Ec h2;obtain⟨x3,rfl,-⟩:=Ec h3;obtain⟨x4,rfl,-⟩:=Ec h4;obtain⟨x5,rfl,-⟩:=Ec h5;obtain⟨x6,rfl,-⟩:=Ec h6;obtain⟨x7,rfl,-⟩:=Ec h7;exact⟨⟨x1,x2,x3,x4,x5,x6,x7⟩,rfl,trivial⟩
theorem cm0{d:D}(h:LookV a35 shA d):∃x:nb,d=Ju x:=by
 obtain⟨ds,h,rfl⟩:=h;obtain⟨_,_,rfl,h0,h⟩:=ta (uj h);obtain⟨_,_,rfl,h1,h⟩:=ta h;obtain⟨_,_,rfl,h2,h⟩:=ta h;obtain⟨_,_,rfl,h3,h⟩:=ta h;obtain⟨_,_,rfl,h4,h⟩:=ta h;obtain rfl:=vj h;obtain⟨x,hx,-⟩:=bp1 h0;obtain⟨l,rfl,-⟩:=Py (λ_=>cl8) h1;obtain⟨q,rfl,-⟩:=Py (λ_=>cl7) h2;obtain⟨x3,rfl,-⟩:=Ec h3;obtain⟨x4,rfl,-⟩:=Ec h4;injection hx with hx;subst hx;exact⟨⟨x,l,q,x3,x4⟩,rfl⟩
end Go.Proofs.Dev
set_option linter.unusedVariables false
namespace Go.Proofs.Dev
open Go Go.Tm
def law_call(a b c:D) (h1:LookV a35 shL a) (h2:LookV a35 shC b) (h3:LookV a35 shA c):CallT Tryz.prog 7 [a,b,c] [] λx _=>x=.v (.bool a35):=by
 obtain⟨l,rfl,hl,hz⟩:=bp0 h1;obtain⟨x,rfl⟩:=cl9 h2;obtain⟨y,rfl⟩:=cm0 h3;exact(Wz (OB IP hz hl x y) []).mono λ_ _ h=>h.1
end Go.Proofs.Dev
