/-
  The contract of the function of the statement: for all arguments of its types.
-/
import Derived.Test.YtadinajclolmnaaGreatDoorQ9
open Bool renaming true->a29
open Go.IntKind renaming i64->b!
set_option linter.all false
set_option maxHeartbeats 1000000
set_option maxRecDepth 10000
set_option linter.unusedSimpArgs false
set_option linter.unusedVariables false
set_option maxHeartbeats 1000000
set_option maxRecDepth 10000
namespace Go.Proofs.Dev
open Go Go.Tm
variable {α:Type}{e:α->D}{p:α->Prop}{S B:Nat}{A:Bool}{s:Sh}{l:List Sh}{cs:List D}
theorem Tb{ds:List D}(h:qk (.int b!) ds):∃n:Int,ds=[.v (.int b! n)]/\-9223372036854775808<=n/\n<=9223372036854775807:=by
 simp only[qk]at h;obtain⟨n,rfl,hw⟩:=h;refine⟨n,rfl,?_⟩;simp[Lit.wf]at hw;have h1:IntKind.i64.min = -9223372036854775808:=s6
 omega
theorem VC{ds:List D}(h:qk .str ds):∃n:ByteArray,ds=[.v (.string n)]:=by
 simp only[qk]at h
 grind
theorem XO{ds:List D}(he:∀cs,qk s cs->∃x,xp A cs=e x/\p x) (h:qk (.sl S B A s) ds):∃l:List α,ds=[.sl S (l.map e)]/\l.length*B<=140737488355328/\∀x∈l,p x:=by
 simp only[qk]at h;obtain⟨l,rfl,hn,hl⟩:=h;have:∀l:List D,(∀d∈l,∃cs,qk s cs/\d=xp A cs)->∃r:List α,l=r.map e/\∀x∈r,p x:=by
  intro l
  induction l with
  |nil=>simp
  |cons d l ih=>
   intro h;obtain⟨r,rfl,hr⟩:=ih λd hd=>h d s5;obtain⟨cs,h1,rfl⟩:=h d p6;obtain⟨x,h2,h3⟩:=he cs h1;refine⟨x::r,p5,λy hy=>?_⟩
   grind
 obtain⟨r,rfl,hr⟩:=this l hl
 grind
theorem rq{ds:List D}(he:∀cs,qk s cs->∃x,xp A cs=e x/\p x) (h:qk (.sl S B A s) ds):∃l:List α,ds=[.sl S (l.map e)]/\∀x∈l,p x:=by
 obtain⟨r,h1,-,h2⟩:=XO he h
 grind
theorem j?{ds:List D}(h:Cw [] ds):ds=[]:=by simpa only[Cw] using h
theorem ra{ds:List D}(h:Cw (s::l) ds):∃a b,ds=a++b/\qk s a/\Cw l b:=by simpa only[Cw] using h
theorem Pg{ds:List D}(h:qk (.cat l) ds):Cw l ds:=by simpa only[qk] using h
theorem UC{ds:List D}(h:qk (.cat [.int b!,.int b!]) ds):∃n m:Int,ds=[.v (.int b! n),.v (.int b! m)]/\(-9223372036854775808<=n/\n<=9223372036854775807)/\(-9223372036854775808<=m/\m<=9223372036854775807):=by
 obtain⟨a,b,rfl,h1,h⟩:=ra (Pg h);obtain⟨c,d,rfl,h2,h⟩:=ra h;obtain rfl:=j? h;obtain⟨n,rfl,hn⟩:=Tb h1;obtain⟨m,rfl,hm⟩:=Tb h2
 grind
abbrev shF:Sh:=.cat [.str,.cat [.int b!,.int b!]]
abbrev shN:Sh:=.cat [.int b!,.int b!]
abbrev shR:Sh:=.cat [.str,.int b!,.int b!,.int b!,.cat [.int b!,.int b!],.sl 2 16 a29 shN,.sl 2 16 a29 shN,.str]
abbrev shS:Sh:=.cat [.str,.int b!,.sl 3 32 a29 shF,.sl 3 32 a29 shF,.sl 9 120 a29 shR]
abbrev shT:Sh:=.cat [.str,.cat [.int b!,.int b!],.cat [.int b!,.int b!],.sl 5 40 a29 (.cat [.cat [.int b!,.int b!],.int b!,.int b!,.int b!])]
abbrev shL:Sh:=.cat [.sl 2 40 a29 (.cat [.str,.sl 1 16 false .str]),.sl 6 72 a29 shT,.sl 5 96 a29 shS]
theorem aa4(h:qk shN cs):∃x:ia,xp a29 cs=nj x/\Pd x:=by
 obtain⟨n,m,rfl,hn,hm⟩:=UC h;exact⟨⟨n,m⟩,rfl,by unfold Pd;omega⟩
theorem aa5(h:qk shF cs):∃x:mu,xp a29 cs=Be x/\True:=by
 obtain⟨a,b,rfl,h1,h⟩:=ra (Pg h);obtain⟨c,d,rfl,h2,h⟩:=ra h;obtain rfl:=j? h;obtain⟨s,rfl⟩:=VC h1;obtain⟨n,m,rfl,hn,hm⟩:=UC h2;exact⟨⟨s,⟨n,m⟩⟩,rfl,trivial⟩
theorem ac2(h:qk shR cs):∃x:ke,xp a29 cs=Tf x/\(∀n∈x.ak,Pd n)/\∀n∈x.Value,Pd n:=by
 obtain⟨_,_,rfl,h1,h⟩:=ra (Pg h);obtain⟨_,_,rfl,h2,h⟩:=ra h;obtain⟨_,_,rfl,h3,h⟩:=ra h;obtain⟨_,_,rfl,h4,h⟩:=ra h;obtain⟨_,_,rfl,h5,h⟩:=ra h;obtain⟨_,_,rfl,h6,h⟩:=ra h;obtain⟨_,_,rfl,h7,h⟩:=ra h;obtain⟨_,_,rfl,h8,h⟩:=ra h;obtain rfl:=j? h;obtain⟨s,rfl⟩:=VC h1;obtain⟨x2,rfl,-⟩:=Tb h2;obtain⟨x3,rfl,-⟩:=Tb h3;obtain⟨x4,rfl,-⟩:=Tb h4;obtain⟨n,m,rfl,-,-⟩:=UC h5;obtain⟨g,rfl,hg⟩:=rq (λ_=>aa4) h6;obtain⟨v,rfl,hv⟩:=rq (λ_=>aa4) h7;obtain⟨t,rfl⟩:=VC h8;exact⟨⟨s,x2,x3,x4,⟨n,m⟩,g,v,t⟩,rfl,hg,hv⟩
theorem ac1(h:qk shS cs):∃x:fr,xp a29 cs=Gd x/\∀r∈x.n,(∀n∈r.ak,Pd n)/\∀n∈r.Value,Pd n:=by
 obtain⟨_,_,rfl,h1,h⟩:=ra (Pg h);obtain⟨_,_,rfl,h2,h⟩:=ra h;obtain⟨_,_,rfl,h3,h⟩:=ra h;obtain⟨_,_,rfl,h4,h⟩:=ra h;obtain⟨_,_,rfl,h5,h⟩:=ra h;obtain rfl:=j? h;obtain⟨s,rfl⟩:=VC h1;obtain⟨x2,rfl,-⟩:=Tb h2;obtain⟨a,rfl,-⟩:=rq (λ_=>aa5) h3;obtain⟨b,rfl,-⟩:=rq (λ_=>aa5) h4;obtain⟨r,rfl,hr⟩:=rq (λ_=>ac2) h5;exact⟨⟨s,x2,a,b,r⟩,rfl,hr⟩
theorem ac0(h:qk shT cs):∃x:po,xp a29 cs=Jg x/\x.Rows.length<=1125899906842624:=by
 obtain⟨_,_,rfl,h1,h⟩:=ra (Pg h);obtain⟨_,_,rfl,h2,h⟩:=ra h;obtain⟨_,_,rfl,h3,h⟩:=ra h;obtain⟨_,_,rfl,h4,h⟩:=ra h;obtain rfl:=j? h;obtain⟨s,rfl⟩:=VC h1;obtain⟨a,b,rfl,-,-⟩:=UC h2;obtain⟨c,d,rfl,-,-⟩:=UC h3;obtain⟨r,rfl,hr,-⟩:=XO (e:=lr) (p:=λ_=>True) (λcs h=>by
  obtain⟨_,_,rfl,h1,h⟩:=ra (Pg h);obtain⟨_,_,rfl,h2,h⟩:=ra h;obtain⟨_,_,rfl,h3,h⟩:=ra h;obtain⟨_,_,rfl,h4,h⟩:=ra h;obtain rfl:=j? h;obtain⟨a,b,rfl,-,-⟩:=UC h1;obtain⟨x2,rfl,-⟩:=Tb h2;obtain⟨x3,rfl,-⟩:=Tb h3;obtain⟨x4,rfl,-⟩:=Tb h4;exact⟨⟨⟨a,b⟩,x2,x3,x4⟩,rfl,trivial⟩) h4
 exact⟨⟨s,⟨a,b⟩,⟨c,d⟩,r⟩,rfl,s5⟩
theorem aa7{d:D}(h:LookV a29 shL d):∃x:ej,d=mq x/\cX x/\∀t∈x.Tables,t.Rows.length<=1125899906842624:=by
 obtain⟨ds,h,rfl⟩:=h;obtain⟨_,_,rfl,h1,h⟩:=ra (Pg h);obtain⟨_,_,rfl,h2,h⟩:=ra h;obtain⟨_,_,rfl,h3,h⟩:=ra h;obtain rfl:=j? h;obtain⟨en,rfl,-⟩:=rq (e:=An) (p:=λ_=>True) (λcs h=>by
  obtain⟨_,_,rfl,h1,h⟩:=ra (Pg h);obtain⟨_,_,rfl,h2,h⟩:=ra h;obtain rfl:=j? h;obtain⟨s,rfl⟩:=VC h1;obtain⟨m,rfl,-⟩:=rq (e:=mz) (p:=λ_=>True) (λcs h=>by obtain⟨s,rfl⟩:=VC h;exact⟨s,rfl,trivial⟩) h2;exact⟨⟨s,m⟩,rfl,trivial⟩) h1
 obtain⟨tb,rfl,ht⟩:=rq (λ_=>ac0) h2;obtain⟨sc,rfl,hs⟩:=rq (λ_=>ac1) h3;exact⟨⟨en,tb,sc⟩,rfl,hs,ht⟩
end Go.Proofs.Dev
set_option linter.unusedSimpArgs false
set_option linter.unusedVariables false
set_option maxHeartbeats 1000000
set_option maxRecDepth 10000
namespace Go.Proofs.Dev
open Go Go.Tm
variable {cs:List D}
abbrev shX:Sh:=.cat [.int b!,.int b!,.int b!,.cat [.int b!,.int b!,.int b!],.cat [.int b!,.int b!],.int b!]
abbrev shH:Sh:=.cat [.int b!,.int b!,.int b!,.sl 9 72 a29 shX]
theorem ab9(h:qk shX cs):∃x:ka,xp a29 cs=sd x/\True:=by
 obtain⟨_,_,rfl,h1,h⟩:=ra (Pg h);obtain⟨_,_,rfl,h2,h⟩:=ra h;obtain⟨_,_,rfl,h3,h⟩:=ra h;obtain⟨_,_,rfl,h4,h⟩:=ra h;obtain⟨_,_,rfl,h5,h⟩:=ra h;obtain⟨_,_,rfl,h6,h⟩:=ra h;obtain rfl:=j? h;obtain⟨x1,rfl,-⟩:=Tb h1;obtain⟨x2,rfl,-⟩:=Tb h2;obtain⟨x3,rfl,-⟩:=Tb h3;obtain⟨_,_,rfl,g1,h⟩:=ra (Pg h4);obtain⟨_,_,rfl,g2,h⟩:=ra h;obtain⟨_,_,rfl,g3,h⟩:=ra h;obtain rfl:=j? h;obtain⟨y1,rfl,-⟩:=Tb g1;obtain⟨y2,rfl,-⟩:=Tb g2;obtain⟨y3,rfl,-⟩:=Tb g3;obtain⟨a,b,rfl,-,-⟩:=UC h5;obtain⟨x6,rfl,-⟩:=Tb h6;exact⟨⟨x1,x2,x3,⟨y1,y2,y3⟩,⟨a,b⟩,x6⟩,rfl,trivial⟩
theorem aa8(h:qk shH cs):∃x:na,xp a29 cs=pv x/\x.ab.length*72<=140737488355328:=by
 obtain⟨_,_,rfl,h1,h⟩:=ra (Pg h);obtain⟨_,_,rfl,h2,h⟩:=ra h;obtain⟨_,_,rfl,h3,h⟩:=ra h;obtain⟨_,_,rfl,h4,h⟩:=ra h;obtain rfl:=j? h;obtain⟨x1,rfl,-⟩:=Tb h1;obtain⟨x2,rfl,-⟩:=Tb h2;obtain⟨x3,rfl,-⟩:=Tb h3;obtain⟨l,rfl,hl,-⟩:=XO (λ_=>ab9) h4;exact⟨⟨x1,x2,x3,l⟩,rfl,hl⟩
end Go.Proofs.Dev
set_option linter.unusedSimpArgs false
set_option linter.unusedVariables false
set_option maxHeartbeats 1000000
set_option maxRecDepth 10000
namespace Go.Proofs.Dev
open Go Go.Tm
abbrev shC:Sh:=.cat [.int b!,.int b!,.int b!,.int b!,.int b!,.int b!,.int b!,.cat [.int b!,.sl 1 8 false (.int b!)]]
theorem ac7{d:D}(h:LookV a29 shC d):∃x:kv,d=Ge x:=by
 obtain⟨ds,h,rfl⟩:=h;obtain⟨_,_,rfl,h1,h⟩:=ra (Pg h);obtain⟨_,_,rfl,h2,h⟩:=ra h;obtain⟨_,_,rfl,h3,h⟩:=ra h;obtain⟨_,_,rfl,h4,h⟩:=ra h;obtain⟨_,_,rfl,h5,h⟩:=ra h;obtain⟨_,_,rfl,h6,h⟩:=ra h;obtain⟨_,_,rfl,h7,h⟩:=ra h;obtain⟨_,_,rfl,h8,h⟩:=ra h;obtain rfl:=j? h;obtain⟨x1,rfl,-⟩:=Tb h1;obtain⟨x2,rfl,-⟩:=Tb h2;obtain⟨x3,rfl,-⟩:=Tb h3;obtain⟨x4,rfl,-⟩:=Tb h4;obtain⟨x5,rfl,-⟩:=Tb h5;obtain⟨x6,rfl,-⟩:=Tb h6;obtain⟨x7,rfl,-⟩:=Tb h7;obtain⟨_,_,rfl,h9,h⟩:=ra (Pg h8);obtain⟨_,_,rfl,h10,h⟩:=ra h;obtain rfl:=j? h;obtain⟨x9,rfl,-⟩:=Tb h9;obtain⟨l,rfl,-⟩:=rq (e:=da) (p:=λ_=>True) (λcs h=>by obtain⟨n,rfl,-⟩:=Tb h;exact⟨n,rfl,trivial⟩) h10;exact⟨⟨x1,x2,x3,x4,x5,x6,x7,⟨x9,l⟩⟩,rfl⟩
end Go.Proofs.Dev
set_option linter.unusedSimpArgs false
set_option linter.unusedVariables false
set_option maxHeartbeats 1000000
set_option maxRecDepth 10000
namespace Go.Proofs.Dev
open Go Go.Tm
variable {cs:List D}
abbrev shO:Sh:=.cat [.int b!,.int b!,.int b!,.int b!]
abbrev shP:Sh:=.cat [.int b!,.int b!,.int b!,.int b!,.int b!,.int b!,.int b!]
abbrev shA:Sh:=.cat [shH,.sl 4 32 a29 shO,.sl 7 56 a29 shP,.int b!,.int b!]
theorem ac4(h:qk shO cs):∃x:cb,xp a29 cs=db x/\True:=by
 obtain⟨_,_,rfl,h1,h⟩:=ra (Pg h);obtain⟨_,_,rfl,h2,h⟩:=ra h;obtain⟨_,_,rfl,h3,h⟩:=ra h;obtain⟨_,_,rfl,h4,h⟩:=ra h;obtain rfl:=j? h;obtain⟨x1,rfl,-⟩:=Tb h1;obtain⟨x2,rfl,-⟩:=Tb h2;obtain⟨x3,rfl,-⟩:=Tb h3;obtain⟨x4,rfl,-⟩:=Tb h4;exact⟨⟨x1,x2,x3,x4⟩,rfl,trivial⟩
theorem ac3(h:qk shP cs):∃x:ml,xp a29 cs=me x/\True:=by
 obtain⟨_,_,rfl,h1,h⟩:=ra (Pg h);obtain⟨_,_,rfl,h2,h⟩:=ra h;obtain⟨_,_,rfl,h3,h⟩:=ra h;obtain⟨_,_,rfl,h4,h⟩:=ra h;obtain⟨_,_,rfl,h5,h⟩:=ra h;obtain⟨_,_,rfl,h6,h⟩:=ra h;obtain⟨_,_,rfl,h7,h⟩:=ra h;obtain rfl:=j? h;obtain⟨x1,rfl,-⟩:=Tb h1;obtain⟨x2,rfl,-⟩:=Tb h2;obtain⟨x3,rfl,-⟩:=Tb h3;obtain⟨x4,rfl,-⟩:=Tb h4;obtain⟨x5,rfl,-⟩:=Tb h5;obtain⟨x6,rfl,-⟩:=Tb h6;obtain⟨x7,rfl,-⟩:=Tb h7;exact⟨⟨x1,x2,x3,x4,x5,x6,x7⟩,rfl,trivial⟩
theorem ac8{d:D}(h:LookV a29 shA d):∃x:ic,d=Zh x:=by
 obtain⟨ds,h,rfl⟩:=h;obtain⟨_,_,rfl,h0,h⟩:=ra (Pg h);obtain⟨_,_,rfl,h1,h⟩:=ra h;obtain⟨_,_,rfl,h2,h⟩:=ra h;obtain⟨_,_,rfl,h3,h⟩:=ra h;obtain⟨_,_,rfl,h4,h⟩:=ra h;obtain rfl:=j? h;obtain⟨x,hx,-⟩:=aa8 h0;obtain⟨l,rfl,-⟩:=rq (λ_=>ac4) h1;obtain⟨q,rfl,-⟩:=rq (λ_=>ac3) h2;obtain⟨x3,rfl,-⟩:=Tb h3;obtain⟨x4,rfl,-⟩:=Tb h4;injection hx with hx;subst hx;exact⟨⟨x,l,q,x3,x4⟩,rfl⟩
end Go.Proofs.Dev
set_option linter.unusedSimpArgs false
set_option linter.unusedVariables false
set_option maxHeartbeats 1000000
set_option maxRecDepth 10000
namespace Go.Proofs.Dev
open Go Go.Tm
abbrev shG:Sh:=.cat [shL,shC,.sl 8 112 a29 shA,.int b!]
theorem aa9{cs:List D}(h:qk shA cs):∃x:ic,xp a29 cs=Zh x/\True:=by
 obtain⟨x,hx⟩:=ac8 (d:=xp a29 cs) ⟨cs,h,rfl⟩;exact⟨x,hx,trivial⟩
def ac6{d:D}(h:LookV a29 shG d):∃x:b6,d=pe x/\cX x.aw/\∀t∈x.aw.Tables,t.Rows.length<=1125899906842624:=by
 obtain⟨ds,h,rfl⟩:=h;obtain⟨_,_,rfl,h0,h⟩:=ra (Pg h);obtain⟨_,_,rfl,h1,h⟩:=ra h;obtain⟨_,_,rfl,h2,h⟩:=ra h;obtain⟨_,_,rfl,h3,h⟩:=ra h;obtain rfl:=j? h;obtain⟨l,hl,hy,hz⟩:=aa7 ⟨_,h0,rfl⟩;obtain⟨c,hc⟩:=ac7 ⟨_,h1,rfl⟩;obtain⟨q,rfl,-⟩:=rq (λ_=>aa9) h2;obtain⟨x3,rfl,-⟩:=Tb h3;injection hl with hl;injection hc with hc;subst hl hc;exact⟨⟨l,c,q,x3⟩,rfl,hy,hz⟩
def aa6{ds:List D}(h:qk (.int .u8) ds):∃n:Int,ds=[.v (.int .u8 n)]/\0<=n/\n<256:=by
 simp only[qk]at h;obtain⟨n,rfl,hw⟩:=h;refine⟨n,rfl,?_⟩;simp[Lit.wf]at hw;have h1:IntKind.u8.min=0:=s6
 have h2:IntKind.u8.max=255:=s6
 omega
def aE1{d:D}(h:LookV false (.sl 1 1 false (.int .u8)) d):∃l:List ot,d=Rn l/\∀b∈l,0<=b.N/\b.N<256:=by
 obtain⟨ds,h,rfl⟩:=h;obtain⟨l,rfl,hl⟩:=rq (e:=gV) (p:=λb=>0<=b.N/\b.N<256) (λcs h=>by obtain⟨n,rfl,hn⟩:=aa6 h;exact⟨⟨n⟩,rfl,hn⟩) h;exact⟨l,rfl,hl⟩
def ac5{d:D}(h:LookV false (.sl 1 8 false (.int b!)) d):∃l:List Int,d=pb l/\∀b∈l,b<9223372036854775808:=by
 obtain⟨ds,h,rfl⟩:=h;obtain⟨l,rfl,hl⟩:=rq (e:=da) (p:=λb=>b<9223372036854775808) (λcs h=>by obtain⟨n,rfl,hn⟩:=Tb h;exact⟨n,rfl,U⟩) h;exact⟨l,rfl,hl⟩
end Go.Proofs.Dev
set_option linter.unusedVariables false
namespace Go.Proofs.Dev
open Go Go.Tm
def law_call(a b:D) (h1:LookV a29 shG a) (h2:LookV false (.sl 1 1 false (.int .u8)) b):CallT Tryz.prog 3 [a,b] [] λx _=>x=.v (.bool a29):=by
 obtain⟨x,rfl,-,-⟩:=ac6 h1;obtain⟨y,rfl,hy⟩:=aE1 h2;exact(tA (AD wL hy) []).mono λ_ _ h=>h.1
end Go.Proofs.Dev
